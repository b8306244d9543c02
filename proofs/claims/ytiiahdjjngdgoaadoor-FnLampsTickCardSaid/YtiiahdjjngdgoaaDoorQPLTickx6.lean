-- squeezed (sq3.py); PRINTED by drive.py (a program of this session's, over the kit's print.py; wip/tools/drive.py). Lean checks it.
import Derived.Test.YtiiahdjjngdgoaaDoorQPLTickx0
import Derived.Test.YtiiahdjjngdgoaaDoorQPLTickx1
import Derived.Test.YtiiahdjjngdgoaaDoorQPLTickx5
import Derived.Test.YtiiahdjjngdgoaaDoorQSq
namespace Go.Proofs.YtiiahdjjngdgoaaDoor.PLTick
open Go.RowKit Go.Proofs.YtiiahdjjngdgoaaDoorW.PrintWords Go.Proofs.YtiiahdjjngdgoaaDoorW.PrintLast Go.Proofs.YtiiahdjjngdgoaaDoorW.PrintMore
attribute [local go_sem] max2_int min2_int max_two min_two max_three min_three max_four min_four   -- for this text's walks alone
set_option linter.unusedVariables false
set_option linter.unusedSimpArgs false

/-! ### spec_laAsked: function 75 -/
def spec_laAsked.f (l0_0 : List ByteArray) (a1 : ByteArray) : Option (Bool) := (spec_laGood.f l0_0).bind fun t257 => (if t257 = true then ((spec_laState.f l0_0 a1).bind fun t258 => (some t258)) else (some false))
set_option maxHeartbeats 8000000 in
set_option maxRecDepth 100000 in
theorem spec_laAsked.calls (A0_0 : Option Addr) (c0_0 : Nat) (l0_0 : List ByteArray) (a1 : ByteArray) (r : Bool) (w : World) (hr0_0 : Kd.C Kd.string w A0_0 l0_0.length l0_0) (hc0_0 : l0_0.length ≤ c0_0) (h : spec_laAsked.f l0_0 a1 = some r) :
  Calls Tryd.prog 75 #[.agg #[.slice A0_0 l0_0.length c0_0], .string a1] w fun e w' => e = .returned (.bool r) ∧ Below w.heap.size w w' := by
 have hu26 := Tryd.underlying26
 have HR0_0 := aM hr0_0
 have HC0_0 := aM hc0_0
 clear hr0_0 hc0_0
 have HB := aM (Below.refl w.heap.size w)
 have H := h
 clear h; unfold spec_laAsked.f at H
 replace H := bC H; obtain ⟨t257, A3, H⟩ := H
 refine iB H ?_ ?_ <;> clear H <;> rintro rfl H
 ·replace H := bC H; obtain ⟨t258, A5, H⟩ := H
  obtain rfl := Option.some.inj H
  go_enter Tryd.func75, Tryd.ntmps75
  go_wp2_with (first | (refine bX (N := 2) rfl (cs := #[.slice A0_0 l0_0.length c0_0]) (t := 26) ?_; intro gb256 hg w6 BK256 hb; have GW256 := gE hg HB; have GE256 := gE hg HB; replace HB := hS HB hb; clear hb hg; obtain ⟨hcz7_0, hfz7_0⟩ := hC1 BK256) | ((with_reducible refine gG 85 (some 6) rfl rfl ?_); refine gC Tryd.func85 (spec_laGood.calls _ _ l0_0 true _ (cU (Kd.C_below HR0_0.out HB.out)) HC0_0.out A3.out) ?_; rintro w8 hb; replace BK256 := bB BK256 hb; replace HB := hS HB hb; clear hb; obtain ⟨hcz9_0, hfz9_0⟩ := hC1 BK256) | (go_at_call 142; (with_reducible refine (spec_laState.calls _ _ l0_0 a1 t258 _ (cU (Kd.C_below HR0_0.out HB.out)) HC0_0.out A5.out).mono ?_); rintro e w10 ⟨rfl, hb⟩; replace BK256 := bB BK256 hb; replace HB := hS HB hb; clear hb))
  go_ret
  exact ⟨eW, bel HB⟩
 obtain rfl := Option.some.inj H
 go_enter Tryd.func75, Tryd.ntmps75
 go_wp2_with (first | (refine bX (N := 2) rfl (cs := #[.slice A0_0 l0_0.length c0_0]) (t := 26) ?_; intro gb256 hg w11 BK256 hb; have GW256 := gE hg HB; have GE256 := gE hg HB; replace HB := hS HB hb; clear hb hg; obtain ⟨hcz12_0, hfz12_0⟩ := hC1 BK256) | ((with_reducible refine gG 85 (some 6) rfl rfl ?_); refine gC Tryd.func85 (spec_laGood.calls _ _ l0_0 false _ (cU (Kd.C_below HR0_0.out HB.out)) HC0_0.out A3.out) ?_; rintro w13 hb; replace BK256 := bB BK256 hb; replace HB := hS HB hb; clear hb))
 go_ret
 exact ⟨eW, bel HB⟩

/-! ### spec_laTicks: function 76 -/
def spec_laTicks.f (a0 : Int) : Option (Bool) := (spec_l1In.f a0 0 1000000).bind fun t259 => (some t259)
set_option maxHeartbeats 8000000 in
set_option maxRecDepth 100000 in
theorem spec_laTicks.calls (a0 : Int) (r : Bool) (w : World) (h : spec_laTicks.f a0 = some r) :
  Calls Tryd.prog 76 #[.int .i64 a0] w fun e w' => e = .returned (.bool r) ∧ Drawn0 w w' := by
 have H := h
 clear h; unfold spec_laTicks.f at H
 replace H := bC H; obtain ⟨t259, A2, H⟩ := H
 obtain rfl := Option.some.inj H
 go_enter Tryd.func76, Tryd.ntmps76
 go_wp2_with (first | ((with_reducible refine gG 96 (some 4) rfl rfl ?_); refine gL Tryd.func96 #[.int .i64 a0, .int .i64 0, .int .i64 1000000] ?_; (with_reducible refine (spec_l1In.calls a0 0 1000000 t259 _ A2.out).mono ?_); rintro e w' ⟨rfl, ⟨nd, rfl⟩⟩; refine ⟨_, rfl, ?_⟩))
 go_ret
 exact ⟨rF, d0⟩

/-! ### spec_laChanges: function 80 -/
-- by hand (wip/ext/laChanges.tpl)
def spec_laChanges.f (l0_0 : List ByteArray) (a1 : ByteArray) (a2 : Int) : Option Bool := if 0 ≤ a2 ∧ a2 < l0_0.length ∧ (rdOf ByteArray.empty l0_0 a2).size ≤ a1.size ∧ a1.size ≤ 1000 then some (meetsL (rdOf ByteArray.empty l0_0 a2).data.toList a1.data.toList) else none
set_option maxHeartbeats 1000000 in
set_option maxRecDepth 100000 in
theorem spec_laChanges.calls (A0_0 : Option Addr) (c0_0 : Nat) (l0_0 : List ByteArray) (a1 : ByteArray) (a2 : Int) (r : Bool) (w : World) (hr0_0 : Kd.C Kd.string w A0_0 l0_0.length l0_0) (hc0_0 : l0_0.length ≤ c0_0) (h : spec_laChanges.f l0_0 a1 a2 = some r) :
    Calls Tryd.prog 80 #[.agg #[.slice A0_0 l0_0.length c0_0], .string a1, .int .i64 a2] w fun e w' => e = .returned (.bool r) ∧ Below w.heap.size w w' := by
 unfold spec_laChanges.f at h
 split at h
 case isFalse => cases h
 case isTrue hc =>
 obtain ⟨h0, h1, hsz, hmx⟩ := hc
 have hR := Option.some.inj h
 clear h
 have hu := Tryd.underlying26
 have hus := Tryd.underlying9
 have hl := hr0_0.2.1
 have hcv : ∀ (wx : World) (s : ByteArray), (convert 9 22 (.string s)).run Tryd.prog wx = .ok (.slice (some ⟨wx.heap.size, 0, none⟩) s.size (grownCap wx s.size 0 5)) (Lib.bytesWorld wx 5 s) := fun wx s => Lib.run_convert_string_bytes wx 9 22 5 s Tryd.underlying9 Tryd.underlying22 Tryd.underlying5
 obtain ⟨ad, rfl, hx0⟩ := Kd.at_string hr0_0 a2 h0 h1
 obtain ⟨nd, hnd⟩ : ∃ nd, nd = rdOf ByteArray.empty l0_0 a2 := ⟨_, rfl⟩
 rw [← hnd] at hx0 hR hsz
 have hlt := World.block_lt_of_cell? w _ hx0
 obtain ⟨i, rfl⟩ : ∃ i : Nat, a2 = i := ⟨a2.toNat, by omega⟩
 simp only [Int.toNat_natCast] at hx0 hlt
 have hx1 : (w.alloc (.cells #[.slice (some ad) l0_0.length c0_0] 26)).cell? (ad.add i) = some (.string nd) := ((below_alloc (Below.refl w.heap.size w) _).cell hlt).trans hx0
 have HR := aM hR
 have HZn := aM (show nd.size = nd.data.toList.length from Lib.size_eq nd)
 have HZs := aM (show a1.size = a1.data.toList.length from Lib.size_eq a1)
 have HSZ := aM hsz
 have HMX := aM hmx
 clear hr0_0 hnd hR hx0 hsz hmx
 go_enter Tryd.func80, Tryd.ntmps80
 go_wp2
 have hcell0 : ∀ j, j < nd.size → (Lib.bytesWorld (w.alloc (.cells #[.slice (some ad) l0_0.length c0_0] 26)) 5 nd).cell? ⟨w.heap.size + 1, j, none⟩ = some (.int .u8 (nd.data.toList.getD j 0).toNat) := by
  intro j hj
  have := Lib.bytesWorld_cell (w.alloc (.cells #[.slice (some ad) l0_0.length c0_0] 26)) 5 nd j hj
  simpa using this
 have HCE := aM hcell0
 have HHB := aM (below_bytes (below_alloc (Below.refl w.heap.size w) (.cells #[.slice (some ad) l0_0.length c0_0] 26)) (by simp) 5 nd)
 clear hcell0 hx1 hcv
 obtain ⟨K, hK⟩ : ∃ K, K = w.heap.size + 1 := ⟨_, rfl⟩
 rw [← hK] at HCE ⊢
 clear hK
 generalize Lib.bytesWorld (w.alloc (.cells #[.slice (some ad) l0_0.length c0_0] 26)) 5 nd = W0 at HCE HHB ⊢
 generalize grownCap (w.alloc (.cells #[.slice (some ad) l0_0.length c0_0] 26)) nd.size 0 5 = cp
 have hnd1 : nd.size ≤ 1000 := by have := HSZ.out; have := HMX.out; omega
 go_loopg [16] nd.size (fun gg v16 w' => ∃ k : Nat, k + gg = nd.size ∧ v16 = .int .i64 k ∧ Aside0 (∀ j (hj : j < nd.data.toList.length) (hs : j < a1.data.toList.length), j < k → nd.data.toList[j] = 63 ∨ nd.data.toList[j] = a1.data.toList[j]) ∧ Aside0 (∀ j, j < nd.size → w'.cell? ⟨K, j, none⟩ = some (.int .u8 (nd.data.toList.getD j 0).toNat)) ∧ Aside0 (Below w.heap.size w w'))
 case atStart => exact ⟨0, by omega, rfl, ⟨fun j _ _ h => absurd h (by omega)⟩, HCE, HHB⟩
 case round =>
  clear HCE HHB
  obtain ⟨k, hks, rfl, HP, HCE, HB⟩ := hrel
  by_cases hp : k < nd.size
  ·have hpl : k < nd.data.toList.length := by rw [← HZn.out]; exact hp
   have hps : k < a1.size := by have := HSZ.out; omega
   have hpsl : k < a1.data.toList.length := by rw [← HZs.out]; exact hps
   have hce := HCE.out k hp
   have eg : nd.data.toList.getD k 0 = nd.data.toList[k] := by simp [List.getD, List.getElem?_eq_getElem hpl]
   rw [eg] at hce
   have eb := bt_nat a1 k hpsl
   obtain ⟨b, hb⟩ : ∃ b, b = nd.data.toList[k] := ⟨_, rfl⟩
   obtain ⟨d, hd⟩ : ∃ d, d = a1.data.toList[k] := ⟨_, rfl⟩
   rw [← hb] at hce
   rw [← hd] at eb
   have q63 := byte_toInt b 63 (by omega)
   have qd : ((b.toNat : Int) = (d.toNat : Int)) = (b = d) := propext ⟨fun h => UInt8.toNat_inj.mp (by omega), fun h => by rw [h]⟩
   rw [← eb] at qd
   obtain ⟨x, hx⟩ : ∃ x : Int, x = (b.toNat : Int) := ⟨_, rfl⟩
   rw [← hx] at hce q63 qd
   have HX := aM hx
   have HBY := aM hb
   have HDY := aM hd
   clear hx hb hd eg eb
   have p6 : (0 ≤ (k : Int)) = True := eq_true (by omega)
   have q6 : ((k : Int) < (a1.size : Int)) = True := eq_true (by omega)
   have hx6 : ((a1[k]'hps).toNat : Int) = bt a1 k := by have := bt_at a1 (k : Int) (by simpa using hps); simpa using this
   by_cases c63 : b = 63
   ·have c63a : (x == 63) = true := beq_iff_eq.mpr (q63.mpr c63)
    have c63b : (x != 63) = false := bne_eq_false_iff_eq.mpr (q63.mpr c63)
    have CC := aM c63
    clear c63 q63 qd
    go_wp2
    go_roundg (nd.size - (k + 1))
    case measure => omega
    case rel => exact ⟨k + 1, by omega, by go_num, ⟨fun j hj hs h => (Nat.lt_succ_iff_lt_or_eq.1 h).elim (HP.out j hj hs) (fun e => by subst e; rw [← HBY.out]; exact .inl CC.out)⟩, HCE, HB⟩
   have c63a : (x == 63) = false := beq_eq_false_iff_ne.mpr (fun h => c63 (q63.mp h))
   have c63b : (x != 63) = true := bne_iff_ne.mpr (fun h => c63 (q63.mp h))
   by_cases cd : b = d
   ·have cda : (x == bt a1 k) = true := beq_iff_eq.mpr (qd.mpr cd)
    have cdb : (x != bt a1 k) = false := bne_eq_false_iff_eq.mpr (qd.mpr cd)
    have CC := aM cd
    clear cd c63 q63 qd
    go_wp2
    go_roundg (nd.size - (k + 1))
    case measure => omega
    case rel => exact ⟨k + 1, by omega, by go_num, ⟨fun j hj hs h => (Nat.lt_succ_iff_lt_or_eq.1 h).elim (HP.out j hj hs) (fun e => by subst e; rw [← HBY.out, ← HDY.out]; exact .inr CC.out)⟩, HCE, HB⟩
   have cda : (x == bt a1 k) = false := beq_eq_false_iff_ne.mpr (fun h => cd (qd.mp h))
   have cdb : (x != bt a1 k) = true := bne_iff_ne.mpr (fun h => cd (qd.mp h))
   have C1 := aM c63
   have C2 := aM cd
   clear cd c63 q63 qd
   go_wp2
   go_ret
   exact ⟨ret_bool (by rw [← HR.out, meetsL_not _ _ k hpl hpsl (by rw [← HBY.out]; exact C1.out) (by rw [← HBY.out, ← HDY.out]; exact C2.out)]), HB.out⟩
  go_wp2
  go_ret
  exact ⟨ret_bool (by rw [← HR.out, meetsL_of _ _ (by have := HSZ.out; have := HZn.out; have := HZs.out; omega) (fun j hj => HP.out j hj (by have := HSZ.out; have := HZn.out; have := HZs.out; omega) (by have := HZn.out; omega))]), HB.out⟩

/-! ### spec_laTick: function 90 -/
-- by hand (wip/ext/laTick.tpl)
def spec_laTick.f (l0_0 : List ByteArray) (a1 : ByteArray) : Option ByteArray := if l0_0.length = a1.size ∧ a1.size ≤ 1000 ∧ (∀ x ∈ l0_0, x.size ≤ a1.size) ∧ a1.data.toList.all isBit = true then some ⟨(tickL l0_0 a1.data.toList).toArray⟩ else none
set_option maxHeartbeats 1000000 in
set_option maxRecDepth 100000 in
theorem spec_laTick.calls (A0_0 : Option Addr) (c0_0 : Nat) (l0_0 : List ByteArray) (a1 : ByteArray) (r : ByteArray) (w : World) (hr0_0 : Kd.C Kd.string w A0_0 l0_0.length l0_0) (hc0_0 : l0_0.length ≤ c0_0) (h : spec_laTick.f l0_0 a1 = some r) :
    Calls Tryd.prog 90 #[.agg #[.slice A0_0 l0_0.length c0_0], .string a1] w fun e w' => e = .returned (.string r) ∧ Below w.heap.size w w' := by
 unfold spec_laTick.f at h
 split at h
 case isFalse => cases h
 case isTrue hc =>
 obtain ⟨hln, hmx, hall, hbits⟩ := hc
 have hR := Option.some.inj h
 clear h
 have hu := Tryd.underlying26
 have hus := Tryd.underlying9
 have HR := aM hR
 have HRR := aM hr0_0
 have HZs := aM (show a1.size = a1.data.toList.length from Lib.size_eq a1)
 have HLN := aM hln
 have HMX := aM hmx
 have HALL := aM hall
 have HBITS := aM hbits
 clear hr0_0 hR hln hmx hall hbits
 go_enter Tryd.func90, Tryd.ntmps90
 go_wp2
 have hi0 : ((w.alloc (.cells #[.slice A0_0 l0_0.length c0_0] 26)).iter a1 0).heap[w.heap.size + 1]? = some (.stringIter a1 0) := by
  have h5 := World.iter_heap (w.alloc (.cells #[.slice A0_0 l0_0.length c0_0] 26)) a1 0
  simpa using h5
 have hb0 : Below w.heap.size w ((w.alloc (.cells #[.slice A0_0 l0_0.length c0_0] 26)).iter a1 0) := ((Below.refl _ w).alloc (Nat.le_refl _) _).alloc (by simp) _
 have hcl0 : ((w.alloc (.cells #[.slice A0_0 l0_0.length c0_0] 26)).iter a1 0).cell? ⟨w.heap.size, 0, none⟩ = some (.slice A0_0 l0_0.length c0_0) := (World.cell?_alloc_past _ _ _ (by simp)).trans (by go_simp)
 have HHI := aM hi0
 have HHB := aM hb0
 clear hi0 hb0
 obtain ⟨K, hK⟩ : ∃ K, K = w.heap.size + 1 := ⟨_, rfl⟩
 rw [← hK] at HHI ⊢
 have HLT := aM (show w.heap.size < K by omega)
 clear hK
 generalize ((w.alloc (.cells #[.slice A0_0 l0_0.length c0_0] 26)).iter a1 0) = W0 at HHI HHB hcl0 ⊢
 go_loopg [5] a1.size (fun gg v5 w' => ∃ pos : Nat, pos + gg = a1.size ∧ v5 = .string ⟨((tickL l0_0 a1.data.toList).take pos).toArray⟩ ∧ Aside0 (w'.heap[K]? = some (.stringIter a1 pos)) ∧ w'.cell? ⟨w.heap.size, 0, none⟩ = some (.slice A0_0 l0_0.length c0_0) ∧ Aside0 (Below w.heap.size w w'))
 case atStart => exact ⟨0, by omega, rfl, HHI, hcl0, HHB⟩
 case round =>
  clear HHI HHB hcl0
  obtain ⟨pos, hps, rfl, HI, hcl, HB⟩ := hrel
  by_cases hp : pos < a1.size
  ·have hpl : pos < a1.data.toList.length := by rw [← HZs.out]; exact hp
   have hnext : ∀ ty, (Instr.next (.pointer (some ⟨K, 0, none⟩)) true ty).run Tryd.prog wr = _ := fun ty => Lib.run_next_any_at wr K a1 pos ty HI.out hp
   have hk1 := Lib.iterAt_heap wr K a1 pos (pos + (Utf8.decode a1 pos).2) HI.out
   have hb1 := Lib.below_iterAt HB.out (Nat.le_of_lt HLT.out) a1 (pos + (Utf8.decode a1 pos).2)
   have hcl1 : (wr.iterAt K a1 (pos + (Utf8.decode a1 pos).2)).cell? ⟨w.heap.size, 0, none⟩ = some (.slice A0_0 l0_0.length c0_0) := (cell_iterAt wr K a1 _ _ (by have := HLT.out; simp; omega)).trans hcl
   have hbit : isBit a1.data.toList[pos] = true := List.all_eq_true.1 HBITS.out _ (List.getElem_mem hpl)
   rw [decode_bit a1 pos hp hpl hbit] at hk1 hb1 hnext hcl1
   have eb := bt_nat a1 pos hpl
   have hln : pos < l0_0.length := by have := HLN.out; omega
   have hk1000 : pos < 1000 := by have := HMX.out; omega
   have htl : pos < (tickL l0_0 a1.data.toList).length := by simp [tickL]; omega
   have htk : (tickL l0_0 a1.data.toList).take (pos + 1) = (tickL l0_0 a1.data.toList).take pos ++ [if meetsL l0_0[pos].data.toList a1.data.toList = true then 97 - a1.data.toList[pos] else a1.data.toList[pos]] := by
    rw [List.take_succ_eq_append_getElem htl]
    simp [tickL]
   have htz : ((tickL l0_0 a1.data.toList).take pos).length = pos := by rw [List.length_take]; omega
   have hndz := HALL.out l0_0[pos] (List.getElem_mem hln)
   have er : rdOf ByteArray.empty l0_0 (pos : Int) = l0_0[pos] := by simp [rdOf, hln]
   have hch : spec_laChanges.f l0_0 a1 (pos : Int) = some (meetsL l0_0[pos].data.toList a1.data.toList) := by
    unfold spec_laChanges.f
    rw [er, if_pos ⟨by omega, by omega, hndz, HMX.out⟩]
   obtain ⟨b, hb⟩ : ∃ b, b = a1.data.toList[pos] := ⟨_, rfl⟩
   rw [← hb] at hbit eb htk
   obtain ⟨M, hM⟩ : ∃ M, M = meetsL l0_0[pos].data.toList a1.data.toList := ⟨_, rfl⟩
   rw [← hM] at hch htk
   obtain ⟨T, hT⟩ : ∃ T, T = (tickL l0_0 a1.data.toList).take pos := ⟨_, rfl⟩
   rw [← hT] at htk htz ⊢
   have HC := aM (fun W (hb : Below w.heap.size w W) => spec_laChanges.calls A0_0 c0_0 l0_0 a1 (pos : Int) M W (Kd.C_below HRR.out hb) hc0_0 hch)
   have HK1 := aM hk1
   have HB1 := aM hb1
   have HTK := aM htk
   have hts : (⟨T.toArray⟩ : ByteArray).size = pos := by show T.toArray.size = pos; simpa using htz
   clear hk1 hb1 HI HB hb hcl er hndz hch hM hT htl hln htk htz
   generalize wr.iterAt K a1 (pos + 1) = W1 at hnext HK1 HB1 hcl1
   generalize (Utf8.decode a1 pos).1 = rn at hnext
   have p6 : (0 ≤ (pos : Int)) = True := eq_true (by omega)
   have q6 : ((pos : Int) < (a1.size : Int)) = True := eq_true (by omega)
   have hx6 : ((a1[pos]'hp).toNat : Int) = bt a1 pos := by have := bt_at a1 (pos : Int) (by simpa using hp); simpa using this
   have hbb : b = 48 ∨ b = 49 := by simpa [isBit] using hbit
   clear hbit
   obtain ⟨B, hB⟩ : ∃ B, B = (bt a1 pos == 48) := ⟨_, rfl⟩
   have HBB := aM hB
   replace hB := hB.symm
   have EB := aM eb
   clear eb
   go_wp2
   refine start_ (n := 9) (S := fun w' => w'.cell? ⟨w.heap.size, 0, none⟩ = some (.slice A0_0 l0_0.length c0_0)) (ds := []) #[false, false, false, false, false, false, false, false, false] (by kernel_rfl) rfl rfl hcl1 (fun hHeld => ?_)
   have hcl1 : W1.drew.cell? ⟨w.heap.size, 0, none⟩ = some (.slice A0_0 l0_0.length c0_0) := hcl1
   have HB1 := aM (below_drew1 HB1.out)
   have HK1 := aM (show W1.drew.heap[K]? = some (.stringIter a1 (pos + 1)) from HK1.out)
   generalize W1.drew = W1 at hcl1 HB1 HK1 hHeld ⊢
   refine pure_ (i := 1) (N := some 13) (v := ?_) (a' := ?_) #[false, true, false, false, false, false, false, false, false] rfl rfl (by kernel_rfl) (fun _ _ _ h => h) (Or.inl ⟨by rfl, ?_⟩) ?_ ?_
   rotate_left
   ·intro w'
    go_simp
    with_reducible rfl
   rotate_left
   ·simp only [Act.put, List.setIfInBounds_toArray, List.set_cons_zero, List.set_cons_succ, i64_w, i32_w]
    rfl
   refine pure_ (i := 2) (N := some 14) (v := ?_) (a' := ?_) #[false, true, true, false, false, false, false, false, false] rfl rfl (by kernel_rfl) (fun _ _ _ h => h) (Or.inl ⟨by rfl, ?_⟩) ?_ ?_
   rotate_left
   ·intro w'
    go_simp
    with_reducible rfl
   rotate_left
   ·simp only [Act.put, List.setIfInBounds_toArray, List.set_cons_zero, List.set_cons_succ, i64_w, i32_w]
    rfl
   refine pure_ (i := 4) (N := some 16) (v := ?_) (a' := ?_) #[false, true, true, false, true, false, false, false, false] rfl rfl (by kernel_rfl) (fun _ _ _ h => h) (Or.inl ⟨by rfl, ?_⟩) ?_ ?_
   rotate_left
   ·intro w'
    go_simp
    with_reducible rfl
   rotate_left
   ·simp only [Act.put, List.setIfInBounds_toArray, List.set_cons_zero, List.set_cons_succ, i64_w, i32_w]
    rfl
   refine pure_ (i := 5) (N := some 17) (v := ?_) (a' := ?_) #[false, true, true, false, true, true, false, false, false] rfl rfl (by kernel_rfl) (fun _ _ _ h => h) (Or.inl ⟨by rfl, ?_⟩) ?_ ?_
   rotate_left
   ·intro w'
    go_simp
    with_reducible rfl
   rotate_left
   ·simp only [Act.put, List.setIfInBounds_toArray, List.set_cons_zero, List.set_cons_succ, i64_w, i32_w]
    rfl
   refine pure_ (i := 6) (N := some 18) (v := ?_) (a' := ?_) #[false, true, true, false, true, true, true, false, false] rfl rfl (by kernel_rfl) (fun _ _ _ h => h) (Or.inl ⟨by rfl, ?_⟩) ?_ ?_
   rotate_left
   ·intro w'
    go_simp
    with_reducible rfl
   rotate_left
   ·simp only [Act.put, List.setIfInBounds_toArray, List.set_cons_zero, List.set_cons_succ, i64_w, i32_w]
    rfl
   refine pure_ (i := 7) (N := some 19) (v := ?_) (a' := ?_) #[false, true, true, false, true, true, true, true, false] rfl rfl (by kernel_rfl) (fun _ _ _ h => h) (Or.inl ⟨by rfl, ?_⟩) ?_ ?_
   rotate_left
   ·intro w'
    go_simp
    with_reducible rfl
   rotate_left
   ·simp only [Act.put, List.setIfInBounds_toArray, List.set_cons_zero, List.set_cons_succ, i64_w, i32_w]
    rfl
   refine take_ (i := 0) (N := some 12) (v := ?_) (a' := ?_) #[true, true, true, false, true, true, true, true, false] rfl rfl (by kernel_rfl) (fun _ _ _ h => h) (Or.inl ⟨by rfl, ?_⟩) hHeld ?_ ?_
   rotate_left
   ·rintro w' s0
    go_simp
    with_reducible rfl
   rotate_left
   ·simp only [Act.put, List.setIfInBounds_toArray, List.set_cons_zero, List.set_cons_succ, i64_w, i32_w]
    rfl
   refine one_ (i := 3) (N := some 15) #[true, true, true, true, true, true, true, true, false] rfl rfl (by kernel_rfl) (by decide) (fun K_ hK => ?_)
   refine goes_ Tryd.func80 (by kernel_rfl) rfl #[.agg #[.slice A0_0 l0_0.length c0_0], .string a1, .int .i64 (pos : Int)] (by rfl) rfl rfl (by (try simp only [List.map_toArray, List.map_cons, List.map_nil]); first | done | rfl) ?_
   refine (HC.out _ HB1.out).mono ?_
   rintro e w2 ⟨rfl, hb⟩
   refine ⟨_, rfl, ?_⟩
   have hcl2 := (hb.cell (World.block_lt_of_cell? _ _ hcl1)).trans hcl1
   have HB2 := aM (below_step HB1.out hb)
   have HK2 := aM ((hb.block K (Array.getElem?_eq_some_iff.1 HK1.out).1).trans HK1.out)
   clear hb hcl1 HB1 HK1
   refine hK.out _ _ hcl2 (fun hHeld => ?_)
   clear hK K_
   refine norm_ (a' := ?_) ?_ ?_
   rotate_left
   ·show Act.put _ (some 15) _ = _
    simp only [Act.put, List.setIfInBounds_toArray, List.set_cons_zero, List.set_cons_succ, i64_w, i32_w]
    rfl
   refine pure_ (i := 8) (N := some 20) (v := ?_) (a' := ?_) #[true, true, true, true, true, true, true, true, true] rfl rfl (by kernel_rfl) (fun _ _ _ h => h) (Or.inl ⟨by rfl, ?_⟩) ?_ ?_
   rotate_left
   ·intro w'
    go_simp
    with_reducible rfl
   rotate_left
   ·simp only [Act.put, List.setIfInBounds_toArray, List.set_cons_zero, List.set_cons_succ, i64_w, i32_w]
    rfl
   refine done_ (by kernel_rfl) ?_
   clear hB hx6 p6 q6 hnext
   have hlast : ∀ c : UInt8, c = (if M = true then 97 - b else b) → (⟨(T ++ [c]).toArray⟩ : ByteArray) = ⟨((tickL l0_0 a1.data.toList).take (pos + 1)).toArray⟩ := fun c hc => by rw [HTK.out, hc]
   have HLA := aM hlast
   clear hlast
   rcases hbb with rfl | rfl
   ·obtain rfl : B = true := by rw [HBB.out, EB.out]; rfl
    cases M with
    | true =>
     skip
     go_wp2
     go_roundg (a1.size - (pos + 1))
     case measure => omega
     case rel => exact ⟨pos + 1, by omega, congrArg Value.string ((str_snoc T 49).trans (HLA.out 49 (by decide))), HK2, hcl2, HB2⟩
    | false =>
     skip
     go_wp2
     go_roundg (a1.size - (pos + 1))
     case measure => omega
     case rel => exact ⟨pos + 1, by omega, congrArg Value.string ((str_snoc T 48).trans (HLA.out 48 (by decide))), HK2, hcl2, HB2⟩
   obtain rfl : B = false := by rw [HBB.out, EB.out]; rfl
   cases M with
   | true =>
    skip
    go_wp2
    go_roundg (a1.size - (pos + 1))
    case measure => omega
    case rel => exact ⟨pos + 1, by omega, congrArg Value.string ((str_snoc T 48).trans (HLA.out 48 (by decide))), HK2, hcl2, HB2⟩
   | false =>
    skip
    go_wp2
    go_roundg (a1.size - (pos + 1))
    case measure => omega
    case rel => exact ⟨pos + 1, by omega, congrArg Value.string ((str_snoc T 49).trans (HLA.out 49 (by decide))), HK2, hcl2, HB2⟩
  have hnext : ∀ ty, (Instr.next (.pointer (some ⟨K, 0, none⟩)) true ty).run Tryd.prog wr = _ := fun ty => Lib.run_next_end_at wr K a1 pos ty HI.out hp
  have hfull : (tickL l0_0 a1.data.toList).take pos = tickL l0_0 a1.data.toList := List.take_of_length_le (by rw [tickL_length _ _ (by have := HLN.out; have := HZs.out; omega)]; have := HZs.out; omega)
  go_wp2
  go_ret
  exact ⟨ret_str (by rw [hfull]; exact HR.out), HB.out⟩

/-! ### spec_laNumber: function 143 -/
-- by hand (wip/ext/laNumber.tpl)
def spec_laNumber.f (a0 : ByteArray) : Option Int := if a0.size ≤ 60 ∧ a0.data.toList.all isBit = true then some (numL a0.data.toList : Int) else none
set_option maxHeartbeats 1000000 in
set_option maxRecDepth 100000 in
theorem spec_laNumber.calls (a0 : ByteArray) (r : Int) (w : World) (h : spec_laNumber.f a0 = some r) :
    Calls Tryd.prog 143 #[.string a0] w fun e w' => e = .returned (.int .i64 r) ∧ Below w.heap.size w w' := by
 unfold spec_laNumber.f at h
 split at h
 case isFalse => cases h
 case isTrue hc =>
 obtain rfl := Option.some.inj h
 clear h
 have HC := aM hc
 clear hc
 have hus := Tryd.underlying9
 have HZ := aM (show a0.size = a0.data.toList.length from Lib.size_eq a0)
 go_enter Tryd.func143, Tryd.ntmps143
 go_wp2
 have HHI := aM (World.iter_heap w a0 0)
 have HHB := aM (show Below w.heap.size w (w.iter a0 0) from below_alloc (Below.refl _ _) _)
 obtain ⟨K, hK⟩ : ∃ K, K = w.heap.size := ⟨_, rfl⟩
 rw [← hK] at HHI ⊢
 have HLT := aM (show w.heap.size ≤ K by omega)
 generalize w.iter a0 0 = W0 at HHI HHB ⊢
 have HKE := aM hK
 clear hK
 go_loopg [3] a0.size (fun gg v3 w' => ∃ pos : Nat, pos + gg = a0.size ∧ v3 = .int .i64 (numL (a0.data.toList.take pos) : Nat) ∧ Aside0 (w'.heap[K]? = some (.stringIter a0 pos)) ∧ Aside0 (Below w.heap.size w w'))
 case atStart => exact ⟨0, by omega, rfl, HHI, HHB⟩
 case round =>
  clear HHI HHB
  obtain ⟨pos, hps, rfl, HI, HB⟩ := hrel
  by_cases hp : pos < a0.size
  ·have hpl : pos < a0.data.toList.length := by rw [← HZ.out]; exact hp
   have hnext : ∀ ty, (Instr.next (.pointer (some ⟨K, 0, none⟩)) true ty).run Tryd.prog wr = _ := fun ty => Lib.run_next_any_at wr K a0 pos ty HI.out hp
   have hk1 := Lib.iterAt_heap wr K a0 pos (pos + (Utf8.decode a0 pos).2) HI.out
   have hb1 := Lib.below_iterAt HB.out HLT.out a0 (pos + (Utf8.decode a0 pos).2)
   have hbit : isBit a0.data.toList[pos] = true := List.all_eq_true.1 HC.out.2 _ (List.getElem_mem hpl)
   rw [decode_bit a0 pos hp hpl hbit] at hk1 hb1 hnext
   have eb := bt_nat a0 pos hpl
   have htk : numL (a0.data.toList.take (pos + 1)) = 2 * numL (a0.data.toList.take pos) + (if a0.data.toList[pos] = 49 then 1 else 0) := by rw [List.take_succ_eq_append_getElem hpl, numL_snoc]
   have hlt := numL_lt pos (a0.data.toList.take pos) (by rw [List.length_take]; omega)
   have hpw : 2 ^ pos ≤ 2 ^ 60 := Nat.pow_le_pow_right (by omega) (by have := HC.out.1; omega)
   obtain ⟨b, hb⟩ : ∃ b, b = a0.data.toList[pos] := ⟨_, rfl⟩
   rw [← hb] at hbit eb htk
   obtain ⟨n, hn⟩ : ∃ n, n = numL (a0.data.toList.take pos) := ⟨_, rfl⟩
   rw [← hn] at htk hlt ⊢
   have hnb : n < 2 ^ 60 := Nat.lt_of_lt_of_le hlt hpw
   have HK1 := aM hk1
   have HB1 := aM hb1
   have HTK := aM htk
   have HNB := aM hnb
   clear hk1 hb1 HI HB hb hn htk hlt hpw hnb
   generalize wr.iterAt K a0 (pos + 1) = W1 at hnext HK1 HB1
   generalize (Utf8.decode a0 pos).1 = rn at hnext
   have p6 : (0 ≤ (pos : Int)) = True := eq_true (by omega)
   have q6 : ((pos : Int) < (a0.size : Int)) = True := eq_true (by omega)
   have hx6 : ((a0[pos]'hp).toNat : Int) = bt a0 pos := by have := bt_at a0 (pos : Int) (by simpa using hp); simpa using this
   have hbb : b = 48 ∨ b = 49 := by simpa [isBit] using hbit
   have hw1 : wrap64 (2 * (n : Int)) = 2 * (n : Int) := w64 (by have := HNB.out; omega) (by have := HNB.out; omega)
   clear hbit
   rcases hbb with rfl | rfl
   ·have eb8 : bt a0 pos = 48 := eb
    clear eb
    go_wp2
    go_roundg (a0.size - (pos + 1))
    case measure => omega
    case rel => exact ⟨pos + 1, by omega, congrArg (Value.int .i64) (by rw [HTK.out]; simp only [hw1]; simp), HK1, HB1⟩
   have eb8 : bt a0 pos = 49 := eb
   clear eb
   go_wp2
   go_roundg (a0.size - (pos + 1))
   case measure => omega
   case rel => exact ⟨pos + 1, by omega, congrArg (Value.int .i64) (by rw [HTK.out]; have := HNB.out; rw [w64 (by omega) (by omega)]; simp), HK1, HB1⟩
  have hnext : ∀ ty, (Instr.next (.pointer (some ⟨K, 0, none⟩)) true ty).run Tryd.prog wr = _ := fun ty => Lib.run_next_end_at wr K a0 pos ty HI.out hp
  go_wp2
  go_ret
  exact ⟨ret_int (by rw [List.take_of_length_le (by have := HZ.out; omega)]), HB.out⟩

/-! ### spec_laPath: function 77 -/
def spec_laPath.l0 : Nat → ByteArray → List Int → List ByteArray → List ByteArray → Option (List ByteArray × Int)
 | 0, _, _, _, _ => none
 | k + 1, x1, x6, x7, x261000 => (spec_laNumber.f x1).bind fun t264 => (if 0 ≤ t264 then (if t264 < (x6.length : Int) then (if (rd x6 t264) > 0 then (some (x7, wrap64 ((rd x6 t264) - 1))) else (if x7.length < 8796093022208 then ((some (x7 ++ [x1] : List ByteArray)).bind fun y267 => ((spec_laTick.f x261000 x1).bind fun t271 => (spec_laPath.l0 k t271 (x6.set (t264 : Int).toNat (y267.length : Int)) y267 x261000))) else (none))) else (none)) else (none))
def spec_laPath.f (k : Nat) (l0_0 : List ByteArray) (a1 : ByteArray) : Option (List ByteArray × Int) := if 0 ≤ (shl .i64 1 (a1.size : Int)) then (if (shl .i64 1 (a1.size : Int) : Int).toNat ≤ 35184372088832 then (spec_laPath.l0 k a1 (List.replicate (shl .i64 1 (a1.size : Int) : Int).toNat 0) ([] : List ByteArray) l0_0) else (none)) else (none)
theorem spec_laPath.mono_l : ∀ k, Mo (spec_laPath.l0 k) (spec_laPath.l0 (k + 1))
 | 0 => m0
 | k + 1 => by
  have ih0 := spec_laPath.mono_l k
  (repeat refine mE fun _ => ?_) <;> first | (unfold spec_laPath.l0; exact mG)
instance spec_laPath.mI (k : Nat) : Mo (spec_laPath.f k) (spec_laPath.f (k + 1)) := by
 have ih0 := spec_laPath.mono_l k
 (repeat refine mE fun _ => ?_); unfold spec_laPath.f; exact mG
theorem spec_laPath.mono : ∀ a0 a1 k, LeO (spec_laPath.f k a0 a1) (spec_laPath.f (k + 1) a0 a1) := fun a0 a1 k => (spec_laPath.mI k).out a0 a1
set_option maxHeartbeats 8000000 in
set_option maxRecDepth 100000 in
theorem spec_laPath.calls (k : Nat) (A0_0 : Option Addr) (c0_0 : Nat) (l0_0 : List ByteArray) (a1 : ByteArray) (r1 : List ByteArray) (r2 : Int) (w : World) (hr0_0 : Kd.C Kd.string w A0_0 l0_0.length l0_0) (hc0_0 : l0_0.length ≤ c0_0) (h : spec_laPath.f k l0_0 a1 = some (r1, r2)) :
  Calls Tryd.prog 77 #[.agg #[.slice A0_0 l0_0.length c0_0], .string a1] w fun e w' => ∃ v0_ : Value, e = .returned (.tuple #[v0_, .int .i64 r2]) ∧ Kd.R Kd.string 9 w' w.heap.size (fun _ => True) v0_ r1 ∧ Below w.heap.size w w' := by
 have hu26 := Tryd.underlying26
 have HR0_0 := aM hr0_0
 have HC0_0 := aM hc0_0
 clear hr0_0 hc0_0
 have HB := aM (Below.refl w.heap.size w)
 have H := h
 clear h; unfold spec_laPath.f at H
 obtain ⟨ji3, hji3⟩ := jN (shl .i64 1 (a1.size : Int))
 first | rw [hji3] at H | simp only [hji3] at H
 have hji3_ : (IntKind.i64.wrap (1 * 2 ^ min (a1.size : Int).toNat 64)) = ji3 := hji3
 have hji3z : (a1.size : Int) ≤ 64 → (IntKind.i64.wrap (1 * 2 ^ (a1.size : Int).toNat)) = ji3 := shl_small hji3
 have hji3u : (IntKind.i64.wrap (2 ^ min (a1.size : Int).toNat 64)) = ji3 := by have h_ := hji3_; rw [Int.one_mul] at h_; exact h_
 have hji3v : (a1.size : Int) ≤ 64 → (IntKind.i64.wrap (2 ^ (a1.size : Int).toNat)) = ji3 := fun hle_ => by have h_ := hji3z hle_; rw [Int.one_mul] at h_; exact h_
 have hji3y : (wrap64 (1 * 2 ^ min (a1.size : Int).toNat 64)) = ji3 := (i64_w _).symm.trans hji3_
 have hji3q : wrap64 (2 ^ min a1.size 64) = ji3 := by have h_ := hji3y; rw [Int.one_mul, Int.toNat_natCast] at h_; exact h_
 have hji3p : IntKind.i64.wrap (2 ^ min a1.size 64) = ji3 := by have h_ := hji3u; rw [Int.toNat_natCast] at h_; exact h_
 have hji3x : (a1.size : Int) ≤ 64 → (wrap64 (1 * 2 ^ (a1.size : Int).toNat)) = ji3 := fun h_ => (i64_w _).symm.trans (hji3z h_)
 refine iY H ?_; clear H; intro c4 H
 have c4b0 := eq_true c4
 have c4b1 := dT c4
 clear c4
 refine iY H ?_; clear H; intro c5 H
 have c5b0 := eq_true c5
 have c5b1 := dT c5
 clear c5
 obtain ⟨y261, Ny261⟩ := yN (List.replicate (ji3 : Int).toNat 0 : List Int); rw [← Ny261.out] at H
 have H' := aM H
 clear H
 go_enter Tryd.func77, Tryd.ntmps77
 go_wp2_with (first | (refine bX (N := 2) rfl (cs := #[.slice A0_0 l0_0.length c0_0]) (t := 26) ?_; intro gb260 hg w6 BK260 hb; have GW260 := gE hg HB; have GE260 := gE hg HB; replace HB := hS HB hb; clear hb hg) | ((with_reducible refine gate_dst (N := 12) rfl ?_); refine Kd.R_make (Kd.int .i64) _ 3 rfl (N := 12) rfl 31 _ _ rfl ji3 rfl rfl Tryd.underlying31 (.int .i64 0) 8 info3 rfl (by decide) (by omega) 0 (ok := fun _ => True) (okp := fun _ => True) rfl (fun _ hk => hk) trivial oD (Nat.le_trans (Nat.mul_le_mul_right _ (oD : ji3.toNat ≤ 35184372088832)) (by omega)) (Below.refl _ _) (Nat.le_refl _) ?_; intro v262 w7 ho8 hb hg_ hnew_; clear hg_ hnew_; (first | rw [← Ny261.out] at ho8 | (simp only [Int.reduceToNat] at ho8; rw [← Ny261.out] at ho8)); have HO263 := rL ho8 HB; replace BK260 := bB BK260 hb; replace HB := hS HB hb; clear hb ho8))
 repeat (go_quiet (fail); try go_wp2_with (first | (refine bX (N := 2) rfl (cs := #[.slice A0_0 l0_0.length c0_0]) (t := 26) ?_; intro gb260 hg w6 BK260 hb; have GW260 := gE hg HB; have GE260 := gE hg HB; replace HB := hS HB hb; clear hb hg) | ((with_reducible refine gate_dst (N := 12) rfl ?_); refine Kd.R_make (Kd.int .i64) _ 3 rfl (N := 12) rfl 31 _ _ rfl ji3 rfl rfl Tryd.underlying31 (.int .i64 0) 8 info3 rfl (by decide) (by omega) 0 (ok := fun _ => True) (okp := fun _ => True) rfl (fun _ hk => hk) trivial oD (Nat.le_trans (Nat.mul_le_mul_right _ (oD : ji3.toNat ≤ 35184372088832)) (by omega)) (Below.refl _ _) (Nat.le_refl _) ?_; intro v262 w7 ho8 hb hg_ hnew_; clear hg_ hnew_; (first | rw [← Ny261.out] at ho8 | (simp only [Int.reduceToNat] at ho8; rw [← Ny261.out] at ho8)); have HO263 := rL ho8 HB; replace BK260 := bB BK260 hb; replace HB := hS HB hb; clear hb ho8)))
 go_loopg [1, 7] k (fun kq v1 v7 w' => ∃ (x1_1 : ByteArray) (x6_1 : List Int) (x7_1 : List ByteArray), v1 = .string x1_1 ∧ Aside0 (spec_laPath.l0 kq x1_1 x6_1 x7_1 l0_0 = some (r1, r2)) ∧ Aside0 (kq ≤ k) ∧ Aside0 (Kd.R (Kd.int .i64) 3 w' w.heap.size (fun _ => True) v262 x6_1) ∧ Aside0 (Kd.R Kd.string 9 w' w.heap.size (fun _ => True) v7 x7_1) ∧ Aside0 (w'.heap[gb260]? = some (.cells #[(.slice A0_0 l0_0.length c0_0)] 26 (0, 0))) ∧ Aside0 (Below w.heap.size w w'))
 case atStart => exact ⟨(a1), (y261), (([] : List ByteArray)), rF, H', kR, ⟨rU HO263.out⟩, ⟨by first | exact Kd.R_nil _ _ _ _ _ | exact Kd.N_nil _ _ _ _ _ | exact Kd.V_nil _ _ _ _ _ | exact Kd.Q_nil _ _ _ _ _ | exact Kd.S_nil _ _ _ _ _⟩, ⟨bU BK260.out⟩, hV HB⟩
 case round =>
  clear H'
  try clear c4b0;try clear c4b1;try clear c5b0;try clear c5b1
  obtain ⟨x1_1, x6_1, x7_1, rfl, HA, HK1, HO_6, HO_7, BK260, HB⟩ := hrel
  obtain rfl | ⟨k1, rfl⟩ := fz gk
  ·exact zA HA
  have H := HA.out
  clear HA
  simp only [spec_laPath.l0] at H
  replace H := bC H; obtain ⟨t264, A9, H⟩ := H
  refine iY H ?_; clear H; intro c10 H
  have c10b0 := dT c10
  clear c10
  refine iY H ?_; clear H; intro c11 H
  have c11b0 := dT c11
  clear c11
  refine iI H ?_ ?_ <;> clear H <;> intro c12 H
  ·have c12b0 := gT c12
   clear c12
   simp only [Option.some.injEq, Prod.mk.injEq] at H
   obtain ⟨rfl, rfl⟩ := H
   go_wp2_with (first | (go_at_call 143; (with_reducible refine (spec_laNumber.calls x1_1 t264 _ A9.out).mono ?_); rintro e w13 ⟨rfl, hb⟩; replace HO_6 := rB HO_6 hb; replace HO_7 := rB HO_7 hb; replace BK260 := bB BK260 hb; replace HB := hS HB hb; clear hb; obtain ⟨Ao14, co14, eo14⟩ := Kd.R_slice HO_6.out; subst eo14; have p265 : 0 ≤ (t264 : Int) := oD; have q265 : t264 < (x6_1.length : Int) := oD; obtain ⟨ad265, e265, hx265_0⟩ := Kd.at_int (Kd.R_reads' HO_6.out).2.2 t264 p265 q265; cases e265; replace p265 := eq_true p265; replace q265 := eq_true q265; have p266 : 0 ≤ (t264 : Int) := oD; have q266 : t264 < (x6_1.length : Int) := oD; obtain ⟨ad266, e266, hx266_0⟩ := Kd.at_int (Kd.R_reads' HO_6.out).2.2 t264 p266 q266; obtain rfl : ad265 = ad266 := (by injection e266); replace p266 := eq_true p266; replace q266 := eq_true q266))
   repeat (go_quiet (first | (go_at_call 143; (with_reducible refine (spec_laNumber.calls x1_1 t264 _ A9.out).mono ?_); rintro e w13 ⟨rfl, hb⟩; replace HO_6 := rB HO_6 hb; replace HO_7 := rB HO_7 hb; replace BK260 := bB BK260 hb; replace HB := hS HB hb; clear hb; obtain ⟨Ao14, co14, eo14⟩ := Kd.R_slice HO_6.out; subst eo14; have p265 : 0 ≤ (t264 : Int) := oD; have q265 : t264 < (x6_1.length : Int) := oD; obtain ⟨ad265, e265, hx265_0⟩ := Kd.at_int (Kd.R_reads' HO_6.out).2.2 t264 p265 q265; cases e265; replace p265 := eq_true p265; replace q265 := eq_true q265; have p266 : 0 ≤ (t264 : Int) := oD; have q266 : t264 < (x6_1.length : Int) := oD; obtain ⟨ad266, e266, hx266_0⟩ := Kd.at_int (Kd.R_reads' HO_6.out).2.2 t264 p266 q266; obtain rfl : ad265 = ad266 := (by injection e266); replace p266 := eq_true p266; replace q266 := eq_true q266)); try go_wp2_with (first | (go_at_call 143; (with_reducible refine (spec_laNumber.calls x1_1 t264 _ A9.out).mono ?_); rintro e w13 ⟨rfl, hb⟩; replace HO_6 := rB HO_6 hb; replace HO_7 := rB HO_7 hb; replace BK260 := bB BK260 hb; replace HB := hS HB hb; clear hb; obtain ⟨Ao14, co14, eo14⟩ := Kd.R_slice HO_6.out; subst eo14; have p265 : 0 ≤ (t264 : Int) := oD; have q265 : t264 < (x6_1.length : Int) := oD; obtain ⟨ad265, e265, hx265_0⟩ := Kd.at_int (Kd.R_reads' HO_6.out).2.2 t264 p265 q265; cases e265; replace p265 := eq_true p265; replace q265 := eq_true q265; have p266 : 0 ≤ (t264 : Int) := oD; have q266 : t264 < (x6_1.length : Int) := oD; obtain ⟨ad266, e266, hx266_0⟩ := Kd.at_int (Kd.R_reads' HO_6.out).2.2 t264 p266 q266; obtain rfl : ad265 = ad266 := (by injection e266); replace p266 := eq_true p266; replace q266 := eq_true q266)))
   go_ret2
   exact ⟨_, by first | rfl | (simp [errW_none, errW_some] <;> rfl) | (simp only [← hji3]; first | rfl | (simp [errW_none, errW_some] <;> rfl)) | (simp [*, errW_none, errW_some] <;> rfl), rU HO_7.out, bel HB⟩
  have c12b0 := gF c12
  clear c12
  refine iY H ?_; clear H; intro c15 H
  have LMc15 := aM c15
  clear c15
  replace H := yB H; obtain ⟨y267, Ny267, H⟩ := H
  obtain ⟨y270, Ny270⟩ := yN (x6_1.set (t264 : Int).toNat (y267.length : Int) : List Int); rw [← Ny270.out] at H
  replace H := bC H; obtain ⟨t271, A17, H⟩ := H
  have H' := aM H
  clear H
  go_wp2_with (first | (go_at_call 143; (with_reducible refine (spec_laNumber.calls x1_1 t264 _ A9.out).mono ?_); rintro e w18 ⟨rfl, hb⟩; replace HO_6 := rB HO_6 hb; replace HO_7 := rB HO_7 hb; replace BK260 := bB BK260 hb; replace HB := hS HB hb; clear hb; obtain ⟨Ao19, co19, eo19⟩ := Kd.R_slice HO_6.out; subst eo19; have p265 : 0 ≤ (t264 : Int) := oD; have q265 : t264 < (x6_1.length : Int) := oD; obtain ⟨ad265, e265, hx265_0⟩ := Kd.at_int (Kd.R_reads' HO_6.out).2.2 t264 p265 q265; cases e265; replace p265 := eq_true p265; replace q265 := eq_true q265) | ((with_reducible refine gate_builtin (b := .append) (xs := #[.tmp 26, .tmp 28]) rfl ?_); at_builtin; refine Kd.R_append Kd.string (w0 := w) w.heap.size rfl (.tmp 26) (.tmp 28) 24 9 (.string ⟨#[]⟩) 16 rfl Tryd.underlying24 info9 rfl (by decide) (by omega) u7 x7_1 x1_1 [.string x1_1] (fun _ => True) (fun _ => False) rfl rfl ?aP (fun _ hk => hk.elim) ?aF ?aO ?aB ?aS ?aL ?_; (case aP => exact rfl); (case aB => exact (bel HB)); (case aF => exact (fun _ _ => trivial)); (case aO => exact (rU HO_7.out)); (case aS => exact (below_size (bel HB))); (case aL => have := LMc15.out; omega); intro v268 w20 ho hb hg hat; rw [← Ny267.out] at ho; have HO269 := aM (ho); replace HO_6 := aM (Kd.R_over' (rU HO_6.out) (Kd.R_typed (rU HO_7.out)) (by decide) hg); replace BK260 := aM (blk_grown (g := gb260) (o := .cells #[.slice A0_0 l0_0.length c0_0] 26 (0, 0)) (bU BK260.out) hg (Kd.R_ne HO_7.out BK260.out (by decide))); replace HB := aM (hb); clear HO_7; clear ho hb hg hat; obtain ⟨Ao21, co21, eo21⟩ := Kd.R_slice HO269.out; subst eo21; have p16 : 0 ≤ (t264 : Int) := oD; have q16 : (t264 : Int) < ((x6_1.length : Int) : Int) := oD; obtain ⟨go16, co16, eo16, gb16, gl16, cl16, HG16⟩ := Kd.R_form HO_6.out (by omega); (first | cases eo16 | (injection eo16 with ea_ en_ ec_; (first | subst ea_ | (injection ea_ with ea_; subst ea_)); subst ec_; clear en_)); have GB16 := aM gb16; have GG16 := aM HG16; clear gb16 gl16 HG16; (first | simp only [add_plain] at hx265_0 | skip); (first | simp only [add_plain] at hx266_0 | skip); obtain ⟨hx16_0, hf16_0⟩ := Kd.R_celln 0 HO_6.out (t264 : Int) p16 q16; replace p16 := eq_true p16; replace q16 := eq_true q16; obtain ⟨hy22_, hz22_⟩ := Kd.R_celln 0 HO_6.out (t264 : Int) oD oD; have HP22 := Kd.R_putg HO_6.out (t264 : Int) (y267.length : Int)) | ((with_reducible refine gate_store (t := 3) (p := 34) rfl ?_); (try (rw [drewN_self w20]; generalize hq_ : World.drewN w20 _ = w20; have n0_ := aM (Kd.R_at hq_ HO_6.out); have n1_ := aM (Kd.R_at hq_ HO269.out); have n2_ := aM (blk_at hq_ BK260.out); have n3_ := aM (below_at hq_ HB.out); clear hq_ HO_6 HO269 BK260 HB; have HO_6 := n0_; have HO269 := n1_; have BK260 := n2_; have HB := n3_; clear n0_ n1_ n2_ n3_; (try (obtain ⟨hy22_, hz22_⟩ := Kd.R_celln 0 HO_6.out (t264 : Int) oD oD)); (try (have HP22 := Kd.R_putg HO_6.out (t264 : Int) (y267.length : Int))))); refine store_event (t := 3) (p := 34) (v := ?vo_w23) (w1 := (w20.setCell ⟨go16, (t264 : Int).toNat, none⟩ (.int .i64 (y267.length : Int)))) ?hg ?ho ?hn ?hr ?_; (case ho => rfl); (case hg => rfl); (case hn => rfl); (case hr => first | (go_simp; done) | (go_simp; rfl)); intro w23 hw; have hg : w20.grownBy w23 (some go16) := (by rw [hw]; exact HP22.2); have hp_ : Kd.R (Kd.int .i64) 3 w23 w.heap.size (fun _ => True) (.slice (some ⟨go16, 0, none⟩) x6_1.length co19) y270 := (by rw [hw, Ny270.out]; exact HP22.1); clear HP22; replace BK260 := aM (blk_grown (g := gb260) (o := .cells #[.slice A0_0 l0_0.length c0_0] 26 (0, 0)) (bU BK260.out) hg (Kd.R_ne HO_6.out BK260.out (by decide))); replace HO269 := aM (Kd.R_over' (v := (.slice (some ⟨go16, 0, none⟩) x6_1.length co19)) (rU HO269.out) (Kd.R_typed HO_6.out) (by decide) hg); replace HO_6 := aM (hp_); replace HB := aM ((by rw [hw]; exact below_set (HB.out) GB16.out : Below w.heap.size w w23)); clear hg hw hp_; obtain ⟨hcz24_0, hfz24_0⟩ := hC1 BK260) | (go_at_call 90; (with_reducible refine (spec_laTick.calls _ _ l0_0 x1_1 t271 _ (cU (Kd.C_below HR0_0.out HB.out)) HC0_0.out A17.out).mono ?_); rintro e w25 ⟨rfl, hb⟩; replace HO_6 := rB HO_6 hb; replace HO269 := rB HO269 hb; replace BK260 := bB BK260 hb; replace HB := hS HB hb; clear hb))
  repeat (go_quiet (first | (go_at_call 143; (with_reducible refine (spec_laNumber.calls x1_1 t264 _ A9.out).mono ?_); rintro e w18 ⟨rfl, hb⟩; replace HO_6 := rB HO_6 hb; replace HO_7 := rB HO_7 hb; replace BK260 := bB BK260 hb; replace HB := hS HB hb; clear hb; obtain ⟨Ao19, co19, eo19⟩ := Kd.R_slice HO_6.out; subst eo19; have p265 : 0 ≤ (t264 : Int) := oD; have q265 : t264 < (x6_1.length : Int) := oD; obtain ⟨ad265, e265, hx265_0⟩ := Kd.at_int (Kd.R_reads' HO_6.out).2.2 t264 p265 q265; cases e265; replace p265 := eq_true p265; replace q265 := eq_true q265) | ((with_reducible refine gate_builtin (b := .append) (xs := #[.tmp 26, .tmp 28]) rfl ?_); at_builtin; refine Kd.R_append Kd.string (w0 := w) w.heap.size rfl (.tmp 26) (.tmp 28) 24 9 (.string ⟨#[]⟩) 16 rfl Tryd.underlying24 info9 rfl (by decide) (by omega) u7 x7_1 x1_1 [.string x1_1] (fun _ => True) (fun _ => False) rfl rfl ?aP (fun _ hk => hk.elim) ?aF ?aO ?aB ?aS ?aL ?_; (case aP => exact rfl); (case aB => exact (bel HB)); (case aF => exact (fun _ _ => trivial)); (case aO => exact (rU HO_7.out)); (case aS => exact (below_size (bel HB))); (case aL => have := LMc15.out; omega); intro v268 w20 ho hb hg hat; rw [← Ny267.out] at ho; have HO269 := aM (ho); replace HO_6 := aM (Kd.R_over' (rU HO_6.out) (Kd.R_typed (rU HO_7.out)) (by decide) hg); replace BK260 := aM (blk_grown (g := gb260) (o := .cells #[.slice A0_0 l0_0.length c0_0] 26 (0, 0)) (bU BK260.out) hg (Kd.R_ne HO_7.out BK260.out (by decide))); replace HB := aM (hb); clear HO_7; clear ho hb hg hat; obtain ⟨Ao21, co21, eo21⟩ := Kd.R_slice HO269.out; subst eo21; have p16 : 0 ≤ (t264 : Int) := oD; have q16 : (t264 : Int) < ((x6_1.length : Int) : Int) := oD; obtain ⟨go16, co16, eo16, gb16, gl16, cl16, HG16⟩ := Kd.R_form HO_6.out (by omega); (first | cases eo16 | (injection eo16 with ea_ en_ ec_; (first | subst ea_ | (injection ea_ with ea_; subst ea_)); subst ec_; clear en_)); have GB16 := aM gb16; have GG16 := aM HG16; clear gb16 gl16 HG16; (first | simp only [add_plain] at hx265_0 | skip); (first | simp only [add_plain] at hx266_0 | skip); obtain ⟨hx16_0, hf16_0⟩ := Kd.R_celln 0 HO_6.out (t264 : Int) p16 q16; replace p16 := eq_true p16; replace q16 := eq_true q16; obtain ⟨hy22_, hz22_⟩ := Kd.R_celln 0 HO_6.out (t264 : Int) oD oD; have HP22 := Kd.R_putg HO_6.out (t264 : Int) (y267.length : Int)) | (go_at_call 90; (with_reducible refine (spec_laTick.calls _ _ l0_0 x1_1 t271 _ (cU (Kd.C_below HR0_0.out HB.out)) HC0_0.out A17.out).mono ?_); rintro e w25 ⟨rfl, hb⟩; replace HO_6 := rB HO_6 hb; replace HO269 := rB HO269 hb; replace BK260 := bB BK260 hb; replace HB := hS HB hb; clear hb)); try go_wp2_with (first | (go_at_call 143; (with_reducible refine (spec_laNumber.calls x1_1 t264 _ A9.out).mono ?_); rintro e w18 ⟨rfl, hb⟩; replace HO_6 := rB HO_6 hb; replace HO_7 := rB HO_7 hb; replace BK260 := bB BK260 hb; replace HB := hS HB hb; clear hb; obtain ⟨Ao19, co19, eo19⟩ := Kd.R_slice HO_6.out; subst eo19; have p265 : 0 ≤ (t264 : Int) := oD; have q265 : t264 < (x6_1.length : Int) := oD; obtain ⟨ad265, e265, hx265_0⟩ := Kd.at_int (Kd.R_reads' HO_6.out).2.2 t264 p265 q265; cases e265; replace p265 := eq_true p265; replace q265 := eq_true q265) | ((with_reducible refine gate_builtin (b := .append) (xs := #[.tmp 26, .tmp 28]) rfl ?_); at_builtin; refine Kd.R_append Kd.string (w0 := w) w.heap.size rfl (.tmp 26) (.tmp 28) 24 9 (.string ⟨#[]⟩) 16 rfl Tryd.underlying24 info9 rfl (by decide) (by omega) u7 x7_1 x1_1 [.string x1_1] (fun _ => True) (fun _ => False) rfl rfl ?aP (fun _ hk => hk.elim) ?aF ?aO ?aB ?aS ?aL ?_; (case aP => exact rfl); (case aB => exact (bel HB)); (case aF => exact (fun _ _ => trivial)); (case aO => exact (rU HO_7.out)); (case aS => exact (below_size (bel HB))); (case aL => have := LMc15.out; omega); intro v268 w20 ho hb hg hat; rw [← Ny267.out] at ho; have HO269 := aM (ho); replace HO_6 := aM (Kd.R_over' (rU HO_6.out) (Kd.R_typed (rU HO_7.out)) (by decide) hg); replace BK260 := aM (blk_grown (g := gb260) (o := .cells #[.slice A0_0 l0_0.length c0_0] 26 (0, 0)) (bU BK260.out) hg (Kd.R_ne HO_7.out BK260.out (by decide))); replace HB := aM (hb); clear HO_7; clear ho hb hg hat; obtain ⟨Ao21, co21, eo21⟩ := Kd.R_slice HO269.out; subst eo21; have p16 : 0 ≤ (t264 : Int) := oD; have q16 : (t264 : Int) < ((x6_1.length : Int) : Int) := oD; obtain ⟨go16, co16, eo16, gb16, gl16, cl16, HG16⟩ := Kd.R_form HO_6.out (by omega); (first | cases eo16 | (injection eo16 with ea_ en_ ec_; (first | subst ea_ | (injection ea_ with ea_; subst ea_)); subst ec_; clear en_)); have GB16 := aM gb16; have GG16 := aM HG16; clear gb16 gl16 HG16; (first | simp only [add_plain] at hx265_0 | skip); (first | simp only [add_plain] at hx266_0 | skip); obtain ⟨hx16_0, hf16_0⟩ := Kd.R_celln 0 HO_6.out (t264 : Int) p16 q16; replace p16 := eq_true p16; replace q16 := eq_true q16; obtain ⟨hy22_, hz22_⟩ := Kd.R_celln 0 HO_6.out (t264 : Int) oD oD; have HP22 := Kd.R_putg HO_6.out (t264 : Int) (y267.length : Int)) | ((with_reducible refine gate_store (t := 3) (p := 34) rfl ?_); (try (rw [drewN_self w20]; generalize hq_ : World.drewN w20 _ = w20; have n0_ := aM (Kd.R_at hq_ HO_6.out); have n1_ := aM (Kd.R_at hq_ HO269.out); have n2_ := aM (blk_at hq_ BK260.out); have n3_ := aM (below_at hq_ HB.out); clear hq_ HO_6 HO269 BK260 HB; have HO_6 := n0_; have HO269 := n1_; have BK260 := n2_; have HB := n3_; clear n0_ n1_ n2_ n3_; (try (obtain ⟨hy22_, hz22_⟩ := Kd.R_celln 0 HO_6.out (t264 : Int) oD oD)); (try (have HP22 := Kd.R_putg HO_6.out (t264 : Int) (y267.length : Int))))); refine store_event (t := 3) (p := 34) (v := ?vo_w23) (w1 := (w20.setCell ⟨go16, (t264 : Int).toNat, none⟩ (.int .i64 (y267.length : Int)))) ?hg ?ho ?hn ?hr ?_; (case ho => rfl); (case hg => rfl); (case hn => rfl); (case hr => first | (go_simp; done) | (go_simp; rfl)); intro w23 hw; have hg : w20.grownBy w23 (some go16) := (by rw [hw]; exact HP22.2); have hp_ : Kd.R (Kd.int .i64) 3 w23 w.heap.size (fun _ => True) (.slice (some ⟨go16, 0, none⟩) x6_1.length co19) y270 := (by rw [hw, Ny270.out]; exact HP22.1); clear HP22; replace BK260 := aM (blk_grown (g := gb260) (o := .cells #[.slice A0_0 l0_0.length c0_0] 26 (0, 0)) (bU BK260.out) hg (Kd.R_ne HO_6.out BK260.out (by decide))); replace HO269 := aM (Kd.R_over' (v := (.slice (some ⟨go16, 0, none⟩) x6_1.length co19)) (rU HO269.out) (Kd.R_typed HO_6.out) (by decide) hg); replace HO_6 := aM (hp_); replace HB := aM ((by rw [hw]; exact below_set (HB.out) GB16.out : Below w.heap.size w w23)); clear hg hw hp_; obtain ⟨hcz24_0, hfz24_0⟩ := hC1 BK260) | (go_at_call 90; (with_reducible refine (spec_laTick.calls _ _ l0_0 x1_1 t271 _ (cU (Kd.C_below HR0_0.out HB.out)) HC0_0.out A17.out).mono ?_); rintro e w25 ⟨rfl, hb⟩; replace HO_6 := rB HO_6 hb; replace HO269 := rB HO269 hb; replace BK260 := bB BK260 hb; replace HB := hS HB hb; clear hb)))
  go_roundg k1
  case measure => have := HK1.out; omega
  case rel => exact ⟨(t271), (y270), (y267), rF, H', ⟨by have := HK1.out; omega⟩, ⟨rU HO_6.out⟩, ⟨rU HO269.out⟩, ⟨bU BK260.out⟩, hV HB⟩

/-! ### spec_laAt: function 78 -/
def spec_laAt.f (l0 : List ByteArray) (a1 : Int) (a2 : Int) : Option (ByteArray) := if a2 < (l0.length : Int) then (if 0 ≤ a2 then (some (rdOf ByteArray.empty l0 a2)) else (none)) else (if (wrap64 ((l0.length : Int) - a1)) = 0 then (none) else (if 0 ≤ (wrap64 (a1 + (Int.tmod (wrap64 (a2 - a1)) (wrap64 ((l0.length : Int) - a1))))) then (if (wrap64 (a1 + (Int.tmod (wrap64 (a2 - a1)) (wrap64 ((l0.length : Int) - a1))))) < (l0.length : Int) then (some (rdOf ByteArray.empty l0 (wrap64 (a1 + (Int.tmod (wrap64 (a2 - a1)) (wrap64 ((l0.length : Int) - a1))))))) else (none)) else (none)))
set_option maxHeartbeats 8000000 in
set_option maxRecDepth 100000 in
theorem spec_laAt.calls (A0 : Option Addr) (c0 : Nat) (l0 : List ByteArray) (a1 : Int) (a2 : Int) (r : ByteArray) (w : World) (hr0 : Kd.C Kd.string w A0 l0.length l0) (hc0 : l0.length ≤ c0) (h : spec_laAt.f l0 a1 a2 = some r) :
  Calls Tryd.prog 78 #[.slice A0 l0.length c0, .int .i64 a1, .int .i64 a2] w fun e w' => e = .returned (.string r) ∧ Drawn0 w w' := by
 have HR0 := aM hr0
 have HC0 := aM hc0
 clear hr0 hc0
 have H := h
 clear h; unfold spec_laAt.f at H
 refine iI H ?_ ?_ <;> clear H <;> intro c4 H
 ·have c4b0 := dT c4
  clear c4
  refine iY H ?_; clear H; intro c5 H
  have c5b0 := dT c5
  clear c5
  obtain rfl := Option.some.inj H
  have p272 : 0 ≤ (a2 : Int) := oD
  have q272 : a2 < (l0.length : Int) := oD
  obtain ⟨ad272, e272, hx272_0⟩ := Kd.at_string HR0.out a2 p272 q272
  cases e272
  replace p272 := eq_true p272
  replace q272 := eq_true q272
  go_enter Tryd.func78, Tryd.ntmps78
  go_wp2
  go_ret
  exact ⟨rF, d0⟩
 have c4b0 := dF c4
 clear c4
 refine iN H ?_; clear H; intro c6 H
 have c6b0 := qF c6
 have c6b1 := nT c6
 obtain ⟨ji7, hji7⟩ := jN (wrap64 (a1 + (Int.tmod (wrap64 (a2 - a1)) (wrap64 ((l0.length : Int) - a1)))))
 first | rw [hji7] at H | simp only [hji7] at H
 have hji7w : (IntKind.i64.wrap (a1 + (Int.tmod (wrap64 (a2 - a1)) (wrap64 ((l0.length : Int) - a1))))) = ji7 := (i64_w _).trans hji7
 refine iY H ?_; clear H; intro c8 H
 have c8b0 := dT c8
 clear c8
 refine iY H ?_; clear H; intro c9 H
 have c9b0 := dT c9
 clear c9
 obtain rfl := Option.some.inj H
 have p273 : 0 ≤ ((ji7) : Int) := oD
 have q273 : (ji7) < (l0.length : Int) := oD
 obtain ⟨ad273, e273, hx273_0⟩ := Kd.at_string HR0.out (ji7) p273 q273
 cases e273
 replace p273 := eq_true p273
 replace q273 := eq_true q273
 go_enter Tryd.func78, Tryd.ntmps78
 go_wp2
 go_ret
 exact ⟨by first | rfl | (simp; done) | (simp only [← hji7] <;> (first | rfl | simp)) | (simp [*]; done), d0⟩

/-! ### spec_TicksAfter: function 9 -/
def spec_TicksAfter.j0 : Nat → ByteArray → Int → Bool → List ByteArray → Option (ByteArray × Bool)
 | 0, _, _, _, _ => none
 | k + 1, x1, x2, x18, x275000 => if x18 = true then (some ((⟨#[]⟩ : ByteArray), false)) else ((spec_laPath.f k x275000 x1).bind fun bt277 => ((spec_laAt.f bt277.1 bt277.2 x2).bind fun t281 => (some (t281, true))))
def spec_TicksAfter.f (k : Nat) (l0_0 : List ByteArray) (a1 : ByteArray) (a2 : Int) : Option (ByteArray × Bool) := (spec_laAsked.f l0_0 a1).bind fun t275 => (if t275 = true then ((spec_laTicks.f a2).bind fun t276 => (spec_TicksAfter.j0 k a1 a2 (!t276) l0_0)) else (spec_TicksAfter.j0 k a1 a2 true l0_0))
theorem spec_TicksAfter.mono_l : ∀ k, Mo (spec_TicksAfter.j0 k) (spec_TicksAfter.j0 (k + 1))
 | 0 => m0
 | k + 1 => by
  have ih0 := spec_TicksAfter.mono_l k
  (repeat refine mE fun _ => ?_) <;> first | (unfold spec_TicksAfter.j0; exact mG)
instance spec_TicksAfter.mI (k : Nat) : Mo (spec_TicksAfter.f k) (spec_TicksAfter.f (k + 1)) := by
 have ih0 := spec_TicksAfter.mono_l k
 (repeat refine mE fun _ => ?_); unfold spec_TicksAfter.f; exact mG
theorem spec_TicksAfter.mono : ∀ a0 a1 a2 k, LeO (spec_TicksAfter.f k a0 a1 a2) (spec_TicksAfter.f (k + 1) a0 a1 a2) := fun a0 a1 a2 k => (spec_TicksAfter.mI k).out a0 a1 a2
set_option maxHeartbeats 8000000 in
set_option maxRecDepth 100000 in
theorem spec_TicksAfter.calls (k : Nat) (A0_0 : Option Addr) (c0_0 : Nat) (l0_0 : List ByteArray) (a1 : ByteArray) (a2 : Int) (r1 : ByteArray) (r2 : Bool) (w : World) (hr0_0 : Kd.C Kd.string w A0_0 l0_0.length l0_0) (hc0_0 : l0_0.length ≤ c0_0) (h : spec_TicksAfter.f k l0_0 a1 a2 = some (r1, r2)) :
  Calls Tryd.prog 9 #[.agg #[.slice A0_0 l0_0.length c0_0], .string a1, .int .i64 a2] w fun e w' => e = .returned (.tuple #[.string r1, .bool r2]) ∧ Below w.heap.size w w' := by
 have hu26 := Tryd.underlying26
 have HR0_0 := aM hr0_0
 have HC0_0 := aM hc0_0
 clear hr0_0 hc0_0
 have HB := aM (Below.refl w.heap.size w)
 have H := h
 clear h; unfold spec_TicksAfter.f at H
 have HC4 := aM H
 clear H
 go_enter Tryd.func9, Tryd.ntmps9
 go_upto_region 1 with (first | (refine bX (N := 3) rfl (cs := #[.slice A0_0 l0_0.length c0_0]) (t := 26) ?_; intro gb274 hg w5 BK274 hb; have GW274 := gE hg HB; have GE274 := gE hg HB; replace HB := hS HB hb; clear hb hg))
 (try simp only [Act.put, List.setIfInBounds_toArray, List.set_cons_zero, List.set_cons_succ])
 go_cut [18] (fun v18 wc => ∃ (kq : Nat) (x18_3 : Bool), v18 = .bool x18_3 ∧ Aside0 (spec_TicksAfter.j0 kq a1 a2 x18_3 l0_0 = some (r1, r2)) ∧ Aside0 (kq ≤ k) ∧ Aside0 (wc.heap[gb274]? = some (.cells #[(.slice A0_0 l0_0.length c0_0)] 26 (0, 0))) ∧ Aside0 (Below w.heap.size w wc))
 case first =>
  have H := HC4.out
  clear HC4
  replace H := bC H; obtain ⟨t275, A6, H⟩ := H
  refine iB H ?_ ?_ <;> clear H <;> rintro rfl H
  ·replace H := bC H; obtain ⟨t276, A8, H⟩ := H
   have H' := aM H
   clear H
   obtain ⟨hcz9_0, hfz9_0⟩ := hC1 BK274
   go_wp2_with (first | ((with_reducible refine gG 75 (some 12) rfl rfl ?_); refine gC Tryd.func75 (spec_laAsked.calls _ _ l0_0 a1 true _ (cU (Kd.C_below HR0_0.out HB.out)) HC0_0.out A6.out) ?_; rintro w10 hb; replace BK274 := bB BK274 hb; replace HB := hS HB hb; clear hb) | (go_at_call 76; (with_reducible refine (spec_laTicks.calls a2 t276 _ A8.out).mono ?_); rintro e w' ⟨rfl, ⟨nd, rfl⟩⟩))
   go_meet
   case rel => exact ⟨_, (!t276), rF, H', kL, ⟨bU BK274.out⟩, hV HB⟩
  have H' := aM H
  clear H
  obtain ⟨hcz11_0, hfz11_0⟩ := hC1 BK274
  go_wp2_with (first | ((with_reducible refine gG 75 (some 12) rfl rfl ?_); refine gC Tryd.func75 (spec_laAsked.calls _ _ l0_0 a1 false _ (cU (Kd.C_below HR0_0.out HB.out)) HC0_0.out A6.out) ?_; rintro w12 hb; replace BK274 := bB BK274 hb; replace HB := hS HB hb; clear hb))
  go_meet
  case rel => exact ⟨_, (true), rF, H', kL, ⟨bU BK274.out⟩, hV HB⟩
 case rest =>
  clear HC4
  obtain ⟨kq, x18_3, rfl, HA, HJ3, BK274, HB⟩ := hcut
  obtain rfl | ⟨kj3, rfl⟩ := fz kq
  ·exact zA HA
  have H := HA.out
  clear HA
  simp only [spec_TicksAfter.j0] at H
  refine iB H ?_ ?_ <;> clear H <;> rintro rfl H
  ·simp only [Option.some.injEq, Prod.mk.injEq] at H
   obtain ⟨rfl, rfl⟩ := H
   go_wp2
   go_ret2
   exact ⟨eW, bel HB⟩
  replace H := bC H; obtain ⟨⟨t277, t280⟩, A14, H⟩ := H; try dsimp only at H
  replace H := bC H; obtain ⟨t281, A15, H⟩ := H
  simp only [Option.some.injEq, Prod.mk.injEq] at H
  obtain ⟨rfl, rfl⟩ := H
  obtain ⟨hcz16_0, hfz16_0⟩ := hC1 BK274
  go_wp2_with (first | ((with_reducible refine gG 77 (some 22) rfl rfl ?_); refine gD Tryd.func77 (spec_laPath.calls kj3 _ _ l0_0 a1 t277 t280 _ (cU (Kd.C_below HR0_0.out HB.out)) HC0_0.out A14.out) ?_; rintro w17 v278 ⟨ho0, hb⟩; have HO279 := rL ho0 HB; replace BK274 := bB BK274 hb; replace HB := hS HB hb; clear hb ho0; obtain ⟨Ao18, co18, eo18⟩ := Kd.R_slice HO279.out; subst eo18) | ((with_reducible refine gG 78 (some 28) rfl rfl ?_); refine gL Tryd.func78 #[.slice Ao18 t277.length co18, .int .i64 t280, .int .i64 a2] ?_; (with_reducible refine (spec_laAt.calls _ _ t277 t280 a2 t281 _ (cU ((Kd.R_reads' HO279.out).2.2)) ((Kd.R_reads' HO279.out).2.1) A15.out).mono ?_); rintro e w' ⟨rfl, ⟨nd, rfl⟩⟩; refine ⟨_, rfl, ?_⟩))
  go_ret2
  exact ⟨eW, bel HB⟩

end Go.Proofs.YtiiahdjjngdgoaaDoor.PLTick
