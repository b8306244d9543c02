-- PRINTED by drive.py (a program of this session's, over the kit's print.py; wip/tools/drive.py). Lean checks it.
import Derived.Test.YtafkcmohbgcknaaDoorPCycx0
import Derived.Test.YtafkcmohbgcknaaDoorPCycx5
namespace Go.Proofs.YtafkcmohbgcknaaDoor.PCyc
open Go.RowKit Go.Proofs.YtafkcmohbgcknaaDoorW.PrintWords Go.Proofs.YtafkcmohbgcknaaDoorW.PrintLast Go.Proofs.YtafkcmohbgcknaaDoorW.PrintMore
attribute [local go_sem] max2_int min2_int max_two min_two max_three min_three max_four min_four   -- for this text's walks alone
set_option linter.unusedVariables false
set_option linter.unusedSimpArgs false

/-! ### impl_CyclesOfLamps: function 7 -/
-- by hand (wip/ext/CyclesOfLamps.tpl)
/-- How many of the sizes told are each number up to N. -/
def cntL (N : Nat) (sz : List Nat) : List Int := (List.range (N + 1)).map fun s => (sz.count s : Int)
theorem cntL_length (N : Nat) (sz : List Nat) : (cntL N sz).length = N + 1 := by simp [cntL]
theorem cntL_rd (N : Nat) (sz : List Nat) (c : Nat) (h : c ≤ N) : rd (cntL N sz) (c : Int) = (sz.count c : Int) := by
  have : c < N + 1 := by omega
  simp [rd, cntL, this]
theorem cntL_nil (N : Nat) : cntL N [] = List.replicate (N + 1) 0 := by
  refine List.ext_getElem (by simp [cntL]) fun i h1 h2 => ?_
  simp [cntL]
theorem cntL_step (N : Nat) (sz : List Nat) (c : Nat) (h : c ≤ N) : (cntL N sz).set c ((sz.count c : Int) + 1) = cntL N (sz ++ [c]) := by
  refine List.ext_getElem (by simp [cntL]) fun i h1 h2 => ?_
  by_cases e : c = i
  · subst e
    simp [cntL, List.count_append]
  · rw [List.getElem_set_ne e]
    have : List.count i [c] = 0 := List.count_eq_zero.2 (by simpa using fun h => e h.symm)
    simp [cntL, List.count_append, this]
theorem index_key (v : ByteArray) (l : List ByteArray) (hl : l.length ≤ 1024) (j : Nat) (hlt : j < l.length) (hat : l[j] = v) (hno : ∀ i (h : i < j), l[i]'(by omega) ≠ v) : ∀ (d i k : Nat), i + d = j → d < k → slices_Index_string_string.l0 k l v (l.length : Int) (i : Int) = some (j : Int) := by
  intro d
  induction d with
  | zero =>
    intro i k hi hk
    obtain ⟨k, rfl⟩ : ∃ z, k = z + 1 := ⟨k - 1, by omega⟩
    obtain rfl : i = j := by omega
    have er : rdOf ByteArray.empty l (i : Int) = v := by simp [rdOf, hlt, hat]
    rw [slices_Index_string_string.l0, if_pos (by omega), if_pos (by omega), if_pos (by omega), er, if_pos rfl]
  | succ d ih =>
    intro i k hi hk
    obtain ⟨k, rfl⟩ : ∃ z, k = z + 1 := ⟨k - 1, by omega⟩
    have hil : i < l.length := by omega
    have er : rdOf ByteArray.empty l (i : Int) = l[i] := by simp [rdOf, hil]
    have hne : ¬ v.toList = l[i].toList := fun e => hno i (by omega) (by
      rw [Lib.toList_data, Lib.toList_data] at e
      exact (ByteArray.ext (Array.toList_inj.1 e)).symm)
    rw [slices_Index_string_string.l0, if_pos (by omega), if_pos (by omega), if_pos (by omega), er, if_neg hne, w64 (by omega) (by omega)]
    exact ih (i + 1) k (by omega) (by omega)
theorem index_at (v : ByteArray) (l : List ByteArray) (hl : l.length ≤ 1024) (hv : v ∈ l) : slices_Index_string_string.f 3000 l v = some ((l.findIdx (fun x => decide (x = v)) : Nat) : Int) := by
  have hlt : l.findIdx (fun x => decide (x = v)) < l.length := List.findIdx_lt_length.2 ⟨v, hv, by simp⟩
  exact index_key v l hl _ hlt (by
    have := List.findIdx_getElem (w := hlt)
    simpa using this) (fun i h => by
    have := List.not_of_lt_findIdx h
    simpa using this) (l.findIdx (fun x => decide (x = v))) 0 3000 (by omega) (by omega)
theorem szG_len {α : Type} [DecidableEq α] (f : α → α) (fuel : Nat) : ∀ (ss done : List α), (szG f fuel ss done).length ≤ ss.length
  | [], _ => Nat.le_refl _
  | s :: ss, done => by
    have h := szG_len f fuel ss (done ++ (walkG f fuel done s).1)
    have h1 : (closeG (walkG f fuel done s)).length ≤ 1 := by
      unfold closeG; split <;> simp
    rw [szG, List.length_append, List.length_cons]
    omega
/-- The rows of the numbers below m. -/
def rowsP (c : Nat → Nat) (m : Nat) : List (List Int) := ((List.range m).filter fun s => decide (0 < c s)).map fun s : Nat => [(s : Int), (c s : Int)]
theorem rowsP_step (c : Nat → Nat) (m : Nat) : rowsP c (m + 1) = if 0 < c m then rowsP c m ++ [[(m : Int), (c m : Int)]] else rowsP c m := by
  unfold rowsP
  rw [List.range_succ, List.filter_append, List.map_append]
  by_cases h : 0 < c m
  · rw [if_pos h]; simp [h]
  · rw [if_neg h]; simp [h]
theorem rowsP_length (c : Nat → Nat) (m : Nat) : (rowsP c m).length ≤ m := by
  unfold rowsP
  rw [List.length_map]
  exact Nat.le_trans (List.length_filter_le _ _) (by simp)
def impl_CyclesOfLamps.f (l0_0 : List ByteArray) : Option (List (List Int) × Bool) := if areLampsB l0_0 = true then (impl_textStates.f 3000 (l0_0.length : Int)).bind fun r => (if r.length = 2 ^ l0_0.length ∧ (r.all fun s => litR l0_0 s) = true ∧ r.Nodup ∧ (r.all fun s => decide (tickS l0_0 s ∈ r)) = true then some (cycR r.length (fun s => (szG (tickS l0_0) 1100 r []).count s), true) else none) else some ([], false)
theorem impl_CyclesOfLamps.info : (Tryd.prog.info? 3).map (fun i => (i.zero, i.size, i.bytes)) = some (some (.int .i64 0), 1, 8) := by kernel_rfl
theorem impl_CyclesOfLamps.infoS : (Tryd.prog.info? 9).map (fun i => (i.zero, i.size, i.bytes)) = some (some (.string ⟨#[]⟩), 1, 16) := by kernel_rfl
theorem impl_CyclesOfLamps.infoR : (Tryd.prog.info? 38).map (fun i => (i.zero, i.size, i.bytes)) = some (some (.slice none 0 0), 1, 24) := by kernel_rfl
set_option maxHeartbeats 4000000 in
set_option maxRecDepth 100000 in
theorem impl_CyclesOfLamps.calls (A0_0 : Option Addr) (c0_0 : Nat) (l0_0 : List ByteArray) (r1 : List (List Int)) (r2 : Bool) (w : World) (hr0_0 : Kd.C Kd.string w A0_0 l0_0.length l0_0) (hc0_0 : l0_0.length ≤ c0_0) (h : impl_CyclesOfLamps.f l0_0 = some (r1, r2)) :
    Calls Tryd.prog 7 #[.agg #[.slice A0_0 l0_0.length c0_0]] w fun e w' => ∃ v0_ : Value, e = .returned (.tuple #[v0_, .bool r2]) ∧ Kd.S (Kd.slice 3 (Kd.int .i64)) 38 w' w.heap.size (fun _ => True) v0_ r1 ∧ Below w.heap.size w w' := by
  unfold impl_CyclesOfLamps.f at h
  have hu := Tryd.underlying29
  have hus := Tryd.underlying9
  have HG := Aside0.mk (fun W (hb : Below w.heap.size w W) => impl_AreLamps.calls A0_0 c0_0 l0_0 (areLampsB l0_0) W (Kd.C_below hr0_0 hb) hc0_0 rfl)
  obtain ⟨G, hG⟩ : ∃ G, G = areLampsB l0_0 := ⟨_, rfl⟩
  rw [← hG] at h HG
  have HB0 := Aside0.mk (show Below w.heap.size w (w.alloc (.cells #[.slice A0_0 l0_0.length c0_0] 29)) from (Below.refl _ w).alloc (Nat.le_refl _) _)
  have BK0 := Aside0.mk (show (w.alloc (.cells #[.slice A0_0 l0_0.length c0_0] 29)).heap[w.heap.size]? = some (.cells #[.slice A0_0 l0_0.length c0_0] 29 (0, 0)) from (MapKept.heap_alloc w _).1)
  cases G with
  | false =>
    simp only [Bool.false_eq_true, if_false, Option.some.injEq, Prod.mk.injEq] at h
    obtain ⟨rfl, rfl⟩ := h
    clear hG hr0_0
    go_enter Tryd.func7, Tryd.ntmps7
    go_wp2_with (go_at_call 17; refine (HG.out _ HB0.out).mono ?_; rintro e w1 ⟨rfl, hb⟩; have HB1 := Aside0.mk (below_step HB0.out hb); clear hb)
    go_ret2
    exact ⟨_, rfl, Kd.S_nil _ _ _ _ _, HB1.out⟩
  | true =>
    simp only [if_true] at h
    obtain ⟨r, hts, h⟩ := Option.bind_eq_some_iff.mp h
    split at h
    case isFalse => cases h
    case isTrue hcond =>
    obtain ⟨hlen, hall, hnd, hcl⟩ := hcond
    simp only [Option.some.injEq, Prod.mk.injEq] at h
    obtain ⟨h1, rfl⟩ := h
    obtain ⟨FU, hFU⟩ : ∃ FU, FU = 1100 := ⟨_, rfl⟩
    rw [← hFU] at h1
    have HFU := Aside0.mk hFU
    clear hFU
    have HR1 := Aside0.mk h1
    have hl10 := (lamps_facts hG.symm).2.1
    have h1024 : 2 ^ l0_0.length ≤ 1024 := Nat.le_trans (Nat.pow_le_pow_right (by omega) hl10) (by decide)
    have hq : ∀ q : Nat, q ≤ 1024 → wrap64 (wrap64 (q : Int) + 1) = ((q + 1 : Nat) : Int) := fun q hq => by
      rw [w64 (a := (q : Int)) (by omega) (by omega), w64 (by omega) (by omega)]
      rfl
    have ew : wrap64 (wrap64 (2 ^ min l0_0.length 64) + 1) = ((r.length + 1 : Nat) : Int) := by
      rw [Nat.min_eq_left (by omega), show ((2 : Int) ^ l0_0.length) = ((2 ^ l0_0.length : Nat) : Int) by simp, hq _ h1024, hlen]
    have HLE := Aside0.mk (show r.length ≤ 1024 by omega)
    have HEW := Aside0.mk ew
    have HALL := Aside0.mk hall
    have HND := Aside0.mk hnd
    have HCL := Aside0.mk (show ∀ x ∈ r, tickS l0_0 x ∈ r from fun x hx => by simpa using List.all_eq_true.1 hcl x hx)
    have HT := Aside0.mk (fun W => impl_textStates.calls 3000 (l0_0.length : Int) r W hts)
    have HRR := Aside0.mk hr0_0
    have hmk : ∀ wx, (Instr.makeMap 41 none).run Tryd.prog wx = .ok (.map (some wx.heap.size)) (wx.alloc (.map #[] 0)) := fun wx => run_makeMap 41 wx
    clear h1 hG hall hts hr0_0 hl10 hlen h1024 hnd hcl ew hq
    go_enter Tryd.func7, Tryd.ntmps7
    go_wp2_with (first
      | (go_at_call 17; refine (HG.out _ HB0.out).mono ?_; rintro e w1 ⟨rfl, hb⟩; have HB1 := Aside0.mk (below_step HB0.out hb); have BK1 := Aside0.mk (blk_alloc (blk_below BK0.out hb) (.map #[] 0)); have HM1 := Aside0.mk (setHas_made Tryd.prog 9 4 w1); have HB2 := Aside0.mk (HB1.out.alloc (below_size HB1.out) (.map #[] 0)); have hcl2 := (blk_cell BK1.out 0).trans rfl; clear hb)
      | ((with_reducible refine gate_dst (N := 24) rfl ?_); refine Kd.R_make (Kd.int .i64) _ 3 rfl (N := 24) rfl 38 _ _ rfl (wrap64 (wrap64 (2 ^ min l0_0.length 64) + 1)) rfl rfl Tryd.underlying38 (.int .i64 0) 8 impl_CyclesOfLamps.info rfl (by decide) (by omega) 0 (ok := fun _ => True) (okp := fun _ => True) rfl (fun _ hk => hk) trivial (by rw [HEW.out]; omega) (by rw [HEW.out, Int.toNat_natCast]; have := HLE.out; omega) (Below.refl _ _) (Nat.le_refl _) ?_; intro v2 w2 ho hb hg_ hnew_; clear hg_ hnew_; rw [HEW.out, Int.toNat_natCast, ← cntL_nil] at ho; obtain ⟨Ac, cc, ev⟩ := Kd.R_slice ho; rw [cntL_length] at ev; subst ev; have HC2 := Aside0.mk (Kd.R_lower ho (below_size HB2.out)); have HM2 := Aside0.mk (setHas_below HM1.out hb); have HB3 := Aside0.mk (below_step HB2.out hb); have BK2 := Aside0.mk (blk_below BK1.out hb); have hcl3 := (blk_cell BK2.out 0).trans rfl; clear ho hb hcl2)
      | (go_at_call 18; refine (HT.out _).mono ?_; rintro e w3 ⟨v, rfl, ho, hb⟩; obtain ⟨A, c, rfl⟩ := Kd.R_slice ho; have HO3 := Aside0.mk (Kd.R_lower ho (below_size HB3.out)); have HC3 := Aside0.mk (Kd.R_below HC2.out hb); have HM3 := Aside0.mk (setHas_below HM2.out hb); have HB4 := Aside0.mk (below_step HB3.out hb); have BK3 := Aside0.mk (blk_below BK2.out hb); have HMW := Aside0.mk (below_size HB1.out); clear ho hb hcl3))
    obtain ⟨gc, cc_, ec_, gb_, gl_, cl_, HG_⟩ := Kd.R_form HC3.out (by rw [cntL_length]; omega)
    (first | cases ec_ | (injection ec_ with ea_ en_ ec_; (first | subst ea_ | (injection ea_ with ea_; subst ea_)); subst ec_; clear en_))
    have GB := Aside0.mk gb_
    clear gb_ gl_ HG_
    have HMNE := Aside0.mk (show w1.heap.size ≠ w.heap.size by
      intro e
      have h1 := BK3.out
      obtain ⟨es, c', h2⟩ := setHas_block HM3.out
      rw [e, h1] at h2
      cases h2)
    clear BK0 HB0 BK1 HM1 HB1 HG HT HB2 h HC2 HM2 HB3 BK2
    obtain ⟨MB, hMB⟩ : ∃ MB, MB = w1.heap.size := ⟨_, rfl⟩
    rw [← hMB] at HM3 HMW HMNE ⊢
    clear hMB
    go_loopg [30] r.length (fun gg v30 w' => ∃ k : Nat, k + gg = r.length ∧ v30 = .int .i64 k ∧ Aside0 (setHas Tryd.prog 9 4 w' MB (doneG (tickS l0_0) FU (r.take k) [])) ∧ Aside0 (Kd.R (Kd.int .i64) 3 w' w.heap.size (fun _ => True) (.slice (some ⟨gc, 0, none⟩) (r.length + 1) cc) (cntL r.length (szG (tickS l0_0) FU (r.take k) []))) ∧ Aside0 (Kd.R Kd.string 9 w' w.heap.size (fun _ => True) (.slice A r.length c) r) ∧ Aside0 (w'.heap[w.heap.size]? = some (.cells #[.slice A0_0 l0_0.length c0_0] 29 (0, 0))) ∧ Aside0 (Below w.heap.size w w'))
    case atStart => exact ⟨0, by omega, rfl, HM3, HC3, HO3, BK3, HB4⟩
    case round => as_aux_lemma =>
      clear HM3 HC3 HO3 BK3 HB4
      obtain ⟨k, hks, rfl, HM, HC, HO, BK, HB⟩ := hrel
      by_cases hp : k < r.length
      · obtain ⟨_, dn, ds, _, _⟩ := sz_count HCL.out (fuel := FU) (by have := HLE.out; have := HFU.out; omega) 0 (r.take k) [] (fun x hx => List.mem_of_mem_take hx) (by simp) (by simp) (by simp)
        have HSN := Aside0.mk (List.take_succ_eq_append_getElem hp)
        have hsr : r[k] ∈ r := List.getElem_mem hp
        obtain ⟨ad, hA, hx⟩ := Kd.at_string (Kd.R_reads' HO.out).2.2 (k : Int) (by omega) (by omega)
        subst hA
        simp only [Int.toNat_natCast] at hx
        have ex : rdOf ByteArray.empty r (k : Int) = r[k] := by simp [rdOf, hp]
        rw [ex] at hx
        clear ex
        obtain ⟨s, hs⟩ : ∃ s, s = r[k] := ⟨_, rfl⟩
        rw [← hs] at hx hsr HSN
        clear hs
        have hDN : doneG (tickS l0_0) FU (r.take (k + 1)) [] = doneG (tickS l0_0) FU (r.take k) [] ++ (walkG (tickS l0_0) FU (doneG (tickS l0_0) FU (r.take k) []) s).1 := by rw [HSN.out, doneG_snoc]
        have hZN : szG (tickS l0_0) FU (r.take (k + 1)) [] = szG (tickS l0_0) FU (r.take k) [] ++ closeG (walkG (tickS l0_0) FU (doneG (tickS l0_0) FU (r.take k) []) s) := by rw [HSN.out, szG_snoc]
        obtain ⟨D, hD⟩ : ∃ D, D = doneG (tickS l0_0) FU (r.take k) [] := ⟨_, rfl⟩
        obtain ⟨SZ, hSZ⟩ : ∃ SZ, SZ = szG (tickS l0_0) FU (r.take k) [] := ⟨_, rfl⟩
        rw [← hD] at HM dn ds hDN hZN
        rw [← hSZ] at HC hZN
        have HSL := Aside0.mk (show SZ.length ≤ 1024 from by
          have h1 := szG_len (tickS l0_0) FU (r.take k) []
          have h2 := HLE.out
          rw [← hSZ] at h1
          rw [List.length_take] at h1
          omega)
        have hF := walkG_facts HCL.out FU D s dn ds hsr (by have := HLE.out; have := HFU.out; omega)
        obtain ⟨WK, hWK⟩ : ∃ WK, WK = walkG (tickS l0_0) FU D s := ⟨_, rfl⟩
        rw [← hWK] at hF hDN hZN
        have HF := Aside0.mk hF
        have HWK0 := Aside0.mk (show WK = ([] ++ (walkG (tickS l0_0) FU (D ++ []) s).1, (walkG (tickS l0_0) FU (D ++ []) s).2) by rw [List.append_nil, hWK]; exact (show ∀ q : List ByteArray × ByteArray, q = ([] ++ q.1, q.2) from fun q => by cases q; rfl) _)
        clear hF hWK
        have HDN := Aside0.mk hDN
        have HZN := Aside0.mk hZN
        have HD0 := Aside0.mk (show (D ++ []).Nodup ∧ (∀ x ∈ D ++ [], x ∈ r) ∧ s ∈ r ∧ FU + ([] : List ByteArray).length = FU from ⟨by rw [List.append_nil]; exact dn, by rw [List.append_nil]; exact ds, hsr, rfl⟩)
        clear hD hSZ hDN hZN dn ds HSN
        go_wp2
        have HO1 := Aside0.mk (setHas_made Tryd.prog 9 4 wr)
        have HM1 := Aside0.mk (setHas_below HM.out ((Below.refl _ wr).alloc (Nat.le_refl _) (.map #[] 0)))
        have HC1 := Aside0.mk (Kd.R_below HC.out ((Below.refl _ wr).alloc (Nat.le_refl _) (.map #[] 0)))
        have HOR1 := Aside0.mk (Kd.R_below HO.out ((Below.refl _ wr).alloc (Nat.le_refl _) (.map #[] 0)))
        have BK1 := Aside0.mk (blk_alloc BK.out (.map #[] 0))
        have HB1 := Aside0.mk (HB.out.alloc (below_size HB.out) (.map #[] 0))
        have HON := Aside0.mk (show MB ≠ wr.heap.size ∧ w.heap.size < wr.heap.size from ⟨by have := setHas_lt HM.out; omega, blk_lt BK.out⟩)
        obtain ⟨OB, hOB⟩ : ∃ OB, OB = wr.heap.size := ⟨_, rfl⟩
        rw [← hOB] at HO1 HON ⊢
        clear hOB HM HC HO BK HB hx hsr
        generalize wr.alloc (.map #[] 0) = W1 at HO1 HM1 HC1 HOR1 BK1 HB1 ⊢
        go_loopg [8, 10] FU (fun gg v8 v10 w' => ∃ (wy : List ByteArray) (t : ByteArray), v10 = .string t ∧ Aside0 (WK = (wy ++ (walkG (tickS l0_0) gg (D ++ wy) t).1, (walkG (tickS l0_0) gg (D ++ wy) t).2)) ∧ Aside0 ((D ++ wy).Nodup ∧ (∀ x ∈ D ++ wy, x ∈ r) ∧ t ∈ r ∧ gg + wy.length = FU) ∧ Aside0 (setHas Tryd.prog 9 4 w' MB (D ++ wy)) ∧ Aside0 (setHas Tryd.prog 9 4 w' OB wy) ∧ Aside0 (Kd.R Kd.string 9 w' w.heap.size (fun _ => True) v8 wy) ∧ Aside0 (Kd.R (Kd.int .i64) 3 w' w.heap.size (fun _ => True) (.slice (some ⟨gc, 0, none⟩) (r.length + 1) cc) (cntL r.length SZ)) ∧ Aside0 (Kd.R Kd.string 9 w' w.heap.size (fun k_ => True ∧ some k_ ≠ (v8 : Value).ownBlock) (.slice (some ad) r.length c) r) ∧ Aside0 (w'.heap[w.heap.size]? = some (.cells #[.slice A0_0 l0_0.length c0_0] 29 (0, 0))) ∧ Aside0 (Below w.heap.size w w'))
        case atStart => exact ⟨[], s, rfl, HWK0, HD0, ⟨by rw [List.append_nil]; exact HM1.out⟩, HO1, ⟨Kd.R_nil _ _ _ _ _⟩, HC1, ⟨Kd.R_mono HOR1.out (fun _ _ => ⟨trivial, by simp [Value.ownBlock]⟩)⟩, BK1, HB1⟩
        case round => as_aux_lemma =>
          clear HM1 HO1 HC1 HOR1 BK1 HB1 HD0 HWK0
          obtain ⟨wy, t, rfl, HWK, HDT, HM, HOM, HW, HC, HO, BK, HB⟩ := hrel
          obtain ⟨dn, ds, ht, hgg⟩ := HDT.out
          have hwl : wy.length ≤ r.length := nodup_len wy r (List.nodup_append.1 dn).2.1 (fun x hx => ds x (List.mem_append_right _ hx))
          have hdl : (D ++ wy).length ≤ r.length := nodup_len (D ++ wy) r dn ds
          have hr := HLE.out
          have hfu := HFU.out
          cases gk with
          | zero => exact absurd hgg (by omega)
          | succ g1 =>
            obtain ⟨Aw, cw, rfl⟩ := Kd.R_slice HW.out
            have hlit : litR l0_0 t = true := List.all_eq_true.1 HALL.out _ ht
            have HSM := Aside0.mk (show t.size ≤ maxLen by have := (lit_facts hlit).2.2.2.1; simp only [maxLen]; omega)
            have HLIT := Aside0.mk hlit
            have hk9 : k < 1024 := by omega
            have hzb : ∀ wx, (zeroValue 4).run Tryd.prog wx = .ok (.bool false) wx := fun wx => by go_simp
            have hlk := setHas_look (t := 41) HM.out Tryd.underlying9 Tryd.underlying41 Tryd.underlying4 (hzb wr) t HSM.out
            have HWL := Aside0.mk hwl
            have HDL := Aside0.mk hdl
            by_cases hm : t ∈ D ++ wy
            · rw [decide_eq_true hm] at hlk
              have hwk := HWK.out
              rw [walkG, if_pos hm, List.append_nil] at hwk
              have HWE := Aside0.mk hwk
              clear hm hwk dn ds ht hgg hwl hdl hr hlit HWK
              clear hlk
              have hlk := setHas_look (t := 41) HM.out Tryd.underlying9 Tryd.underlying41 Tryd.underlying4 (hzb wr) t HSM.out
              rw [decide_eq_true (show t ∈ D ++ wy by have h3 := HF.out.2.2.1; rw [HWE.out] at h3; exact h3)] at hlk
              by_cases hw0 : wy = []
              · subst hw0
                have c0b : (((([] : List ByteArray).length : Nat) : Int) == 0) = true := rfl
                go_wp2
                go_roundg (r.length - (k + 1))
                case measure => omega
                case rel => exact ⟨k + 1, by omega, by go_num, ⟨by rw [HDN.out, HWE.out]; exact HM.out⟩, ⟨by rw [HZN.out, HWE.out]; simpa [closeG] using HC.out⟩, ⟨Kd.R_mono HO.out (fun _ _ => trivial)⟩, BK, HB⟩
              · have hwl0 : 0 < wy.length := List.length_pos_iff.2 hw0
                have c0b : ((wy.length : Int) == 0) = false := beq_eq_false_iff_ne.2 (by omega)
                obtain ⟨m, hm1⟩ : ∃ m, wy.length = m + 1 := ⟨wy.length - 1, by omega⟩
                have hmlt : m < wy.length := by omega
                obtain ⟨aw, hA, hxw⟩ := Kd.at_string (Kd.R_reads' HW.out).2.2 (m : Int) (by omega) (by omega)
                subst hA
                simp only [Int.toNat_natCast] at hxw
                have ex : rdOf ByteArray.empty wy (m : Int) = wy[m] := by simp [rdOf, hmlt]
                rw [ex] at hxw
                have ew1 : wrap64 ((wy.length : Int) - 1) = (m : Int) := by
                  have := HWL.out
                  have := HLE.out
                  rw [w64 (by omega) (by omega)]
                  omega
                have ew2 : IntKind.i64.wrap ((wy.length : Int) - 1) = (m : Int) := (i64_w _).trans ew1
                -- the last place of the walk: a tick leads to where the walk ended
                have hend : tickS l0_0 wy[m] = t := by
                  have h4 := HF.out.2.2.2.1 m (by rw [HWE.out]; exact hmlt)
                  have h5 := HF.out.2.2.2.2.1
                  have e1 : WK.1 = wy := by rw [HWE.out]
                  have e2 : WK.2 = t := by rw [HWE.out]
                  simp only [e1, e2] at h4 h5
                  rw [h4, ← itF_succ (tickS l0_0), h5, hm1]
                have hlr : litR l0_0 wy[m] = true := List.all_eq_true.1 HALL.out _ (HDT.out.2.1 _ (List.mem_append_right _ (List.getElem_mem _)))
                have HTK := Aside0.mk (show impl_Lamps_tick.f l0_0 wy[m] = some t by
                  obtain ⟨_, h1, _, h2, h3, h4⟩ := lit_facts hlr
                  unfold impl_Lamps_tick.f
                  rw [if_pos ⟨h1, by omega, h3⟩, ← hend]
                  rfl)
                have hcl := (blk_cell BK.out 0).trans rfl
                generalize wy[m] = z at hxw HTK hend hlr
                clear hend hlr ex hwl0 hm1
                go_wp2
                go_region_with (go_at_call 19; refine (impl_Lamps_tick.calls A0_0 c0_0 l0_0 z t _ (Kd.C_below HRR.out (below_drew1 HB.out)) hc0_0 HTK.out).mono ?_; rintro e w3 ⟨rfl, hb⟩; have hb3 := below_step (below_drew1 (Below.refl _ wr)) hb; have HM3 := Aside0.mk (setHas_below HM.out hb3); have HOM3 := Aside0.mk (setHas_below HOM.out hb3); have HC3 := Aside0.mk (Kd.R_below HC.out hb3); have HO3 := Aside0.mk (Kd.R_mono (Kd.R_below HO.out hb3) (fun _ _ => trivial)); have HW3 := Aside0.mk (Kd.R_below HW.out hb3); have BK3 := Aside0.mk (blk_below BK.out hb3); have HB3 := Aside0.mk (below_step HB.out hb3); have hlk2 := setHas_look (t := 41) HOM3.out Tryd.underlying9 Tryd.underlying41 Tryd.underlying4 (hzb w3) t HSM.out; clear hb hb3 hlk hcl hxw)
                all_goals as_aux_lemma =>
                  clear ew1 ew2 hk9
                  by_cases htw : t ∈ wy
                  · rw [decide_eq_true htw] at hlk2
                    have hcl1 : closeG WK = [wy.length - wy.findIdx (fun x => decide (x = t))] := by
                      rw [HWE.out]; exact if_pos htw
                    have hix := index_at t wy (by have := HWL.out; have := HLE.out; omega) htw
                    have hlt : wy.findIdx (fun x => decide (x = t)) < wy.length := List.findIdx_lt_length.2 ⟨t, htw, by simp⟩
                    obtain ⟨jx, hjx⟩ : ∃ jx, jx = wy.findIdx (fun x => decide (x = t)) := ⟨_, rfl⟩
                    rw [← hjx] at hcl1 hix hlt
                    have HIX := Aside0.mk hix
                    have HCL1 := Aside0.mk hcl1
                    obtain ⟨cz, hcz⟩ : ∃ cz, cz = wy.length - jx := ⟨_, rfl⟩
                    have hczr : cz < r.length + 1 := by have := HWL.out; omega
                    have ewj : wrap64 ((wy.length : Int) - (jx : Int)) = (cz : Int) := by
                      have := HWL.out
                      have := HLE.out
                      rw [w64 (by omega) (by omega)]; omega
                    have HCV := Aside0.mk (show List.count cz SZ ≤ 1024 from Nat.le_trans List.count_le_length HSL.out)
                    have HCZ := Aside0.mk hcz
                    obtain ⟨ci, hci⟩ : ∃ ci : Int, ci = (cz : Int) := ⟨_, rfl⟩
                    rw [← hci] at ewj
                    have HCI := Aside0.mk hci
                    have hp0 : 0 ≤ ci := by omega
                    have hq0 : ci < ((r.length + 1 : Nat) : Int) := by omega
                    have HSET := Aside0.mk (show (cntL r.length SZ).set ci.toNat (wrap64 (rd (cntL r.length SZ) ci + 1)) = cntL r.length (SZ ++ [cz]) from by
                      have := HCV.out
                      rw [hci, cntL_rd _ _ _ (by omega), w64 (by omega) (by omega), Int.toNat_natCast, cntL_step _ _ _ (by omega)])
                    clear hix hcl1 htw hjx hmlt hcz hci hczr hlt
                    obtain ⟨CL, hCL⟩ : ∃ CL, CL = cntL r.length SZ := ⟨_, rfl⟩
                    rw [← hCL] at HC3 HSET
                    have hcll : CL.length = r.length + 1 := by rw [hCL, cntL_length]
                    clear hCL
                    have HCLL := Aside0.mk hcll
                    clear hcll
                    go_wp2_with (first
                      | (go_at_call 20; refine (slices_Index_string_string.calls 3000 (some aw) cw wy t (jx : Int) _ (Kd.R_reads' HW3.out).2.2 (Kd.R_reads' HW3.out).2.1 HIX.out).mono ?_; rintro e w4 ⟨rfl, hd⟩; have hb := hd.below; have HM4 := Aside0.mk (setHas_below HM3.out hb); have HC4 := Aside0.mk (Kd.R_below HC3.out hb); have HO4 := Aside0.mk (Kd.R_below HO3.out hb); have BK4 := Aside0.mk (blk_below BK3.out hb); have HB4 := Aside0.mk (below_step HB3.out hb); clear hb hd; obtain ⟨hx0, hf0⟩ := Kd.R_celln 0 HC4.out ci hp0 hq0; have HP := Kd.R_putg HC4.out ci (wrap64 (rd CL ci + 1)); have p0 := eq_true hp0; have q0 := eq_true hq0)
                      | ((with_reducible refine gate_store (t := 3) (p := 75) rfl ?_); refine store_event (t := 3) (p := 75) (v := ?vo_) (w1 := (w4.setCell ⟨gc, ci.toNat, none⟩ (.int .i64 (wrap64 (rd CL ci + 1))))) ?hg ?ho ?hn ?hr ?_; (case ho => rfl); (case hg => rfl); (case hn => rfl); (case hr => first | (go_simp; done) | (go_simp; rfl)); intro w5 hw; have hg : w4.grownBy w5 (some gc) := (by rw [hw]; exact HP.2); have HC5 := Aside0.mk (show Kd.R (Kd.int .i64) 3 w5 w.heap.size (fun _ => True) (.slice (some ⟨gc, 0, none⟩) (r.length + 1) cc) (cntL r.length (SZ ++ [cz])) from by rw [hw, ← HSET.out]; exact HP.1); clear HP; have HM5 := Aside0.mk (setHas_kept HM4.out hg (by obtain ⟨es3_, c3_, hbm3⟩ := setHas_block HM4.out; intro he; obtain ⟨cs_, hcs_⟩ := Kd.R_typed HC4.out MB (by simpa [Value.ownBlock] using he.symm); rw [hbm3] at hcs_; cases hcs_)); have HO5 := Aside0.mk (Kd.R_over' HO4.out (Kd.R_typed HC4.out) (by decide) hg); have BK5 := Aside0.mk (blk_grown BK4.out hg (Kd.R_ne HC4.out BK4.out (by decide))); have HB5 := Aside0.mk (show Below w.heap.size w w5 from by rw [hw]; exact below_set HB4.out GB.out); clear hg hw))
                    have hk9 : k < 1024 := by have := HLE.out; omega
                    go_roundg (r.length - (k + 1))
                    case measure => omega
                    case rel => exact ⟨k + 1, by omega, congrArg (Value.int .i64) (by first | omega | (rw [w64 (by omega) (by omega)]; omega)), ⟨by rw [HDN.out, HWE.out]; exact HM5.out⟩, ⟨by rw [HZN.out, HCL1.out, ← HCZ.out]; exact HC5.out⟩, HO5, BK5, HB5⟩
                  · rw [decide_eq_false htw] at hlk2
                    have hcl1 : closeG WK = [] := by rw [HWE.out]; exact if_neg htw
                    have HCL1 := Aside0.mk hcl1
                    clear htw hcl1 hmlt
                    have hk9 : k < 1024 := by have := HLE.out; omega
                    go_wp2
                    go_roundg (r.length - (k + 1))
                    case measure => omega
                    case rel => exact ⟨k + 1, by omega, by go_num, ⟨by rw [HDN.out, HWE.out]; exact HM3.out⟩, ⟨by rw [HZN.out, HCL1.out, List.append_nil]; exact HC3.out⟩, HO3, BK3, HB3⟩
            · rw [decide_eq_false hm] at hlk
              have htw : t ∉ wy := fun h => hm (List.mem_append_right _ h)
              have hwk := HWK.out
              rw [walkG, if_neg hm] at hwk
              have HWK2 := Aside0.mk (show WK = ((wy ++ [t]) ++ (walkG (tickS l0_0) g1 (D ++ (wy ++ [t])) (tickS l0_0 t)).1, (walkG (tickS l0_0) g1 (D ++ (wy ++ [t])) (tickS l0_0 t)).2) by
                rw [hwk, ← List.append_assoc D wy [t]]
                simp)
              have HDT2 := Aside0.mk (show (D ++ (wy ++ [t])).Nodup ∧ (∀ x ∈ D ++ (wy ++ [t]), x ∈ r) ∧ tickS l0_0 t ∈ r ∧ g1 + (wy ++ [t]).length = FU from by
                refine ⟨?_, ?_, HCL.out t ht, by simp; omega⟩
                · rw [← List.append_assoc, List.nodup_append]
                  exact ⟨dn, by simp, fun a ha b hb e => hm (by rw [List.mem_singleton] at hb; rw [← hb, ← e]; exact ha)⟩
                · intro x hx
                  rw [← List.append_assoc] at hx
                  rcases List.mem_append.1 hx with hx | hx
                  · exact ds x hx
                  · rw [List.mem_singleton] at hx; rw [hx]; exact ht)
              have HTK := Aside0.mk (show impl_Lamps_tick.f l0_0 t = some (tickS l0_0 t) by
                obtain ⟨_, h1, _, h2, h3, h4⟩ := lit_facts hlit
                unfold impl_Lamps_tick.f
                rw [if_pos ⟨h1, by omega, h3⟩]
                rfl)
              obtain ⟨wa, hup1, hma, hga⟩ := setHas_put (t := 41) HM.out Tryd.underlying9 Tryd.underlying41 Tryd.underlying4 t HSM.out (by simp only [maxLen]; omega)
              have ea : addS (D ++ wy) t = D ++ (wy ++ [t]) := by unfold addS; rw [if_neg hm, List.append_assoc]
              rw [ea] at hma
              obtain ⟨es_, c_, hbm⟩ := setHas_block HM.out
              have HOMa := setHas_kept (row := some MB) HOM.out hga (by have := HON.out.1; intro e; cases e; exact this rfl)
              have HWa := R_map HW.out hbm hga
              have HCa := R_map HC.out hbm hga
              have HOa := R_map HO.out hbm hga
              have BKa := blk_grown BK.out hga (by have := HMNE.out; intro e; cases e; exact this rfl)
              have HBa := HB.out.grown hga (below_size HB.out) (fun k' hk' => by cases hk'; exact HMW.out)
              obtain ⟨wb, hup2, hmb, hgb⟩ := setHas_put (t := 41) HOMa Tryd.underlying9 Tryd.underlying41 Tryd.underlying4 t HSM.out (by simp only [maxLen]; omega)
              have eb : addS wy t = wy ++ [t] := by unfold addS; rw [if_neg htw]
              rw [eb] at hmb
              obtain ⟨es2_, c2_, hbm2⟩ := setHas_block HOMa
              have HM2 := Aside0.mk (setHas_kept (row := some OB) hma hgb (by have := HON.out.1; intro e; cases e; exact this rfl))
              have HOM2 := Aside0.mk hmb
              have HW2 := Aside0.mk (R_map HWa hbm2 hgb)
              have HC2 := Aside0.mk (R_map HCa hbm2 hgb)
              have HO2 := Aside0.mk (R_map HOa hbm2 hgb)
              have BK2 := Aside0.mk (blk_grown BKa hgb (by have := HON.out.2; intro e; cases e; omega))
              have HB2 := Aside0.mk (HBa.grown hgb (below_size HBa) (fun k' hk' => by cases hk'; have := HON.out.2; omega))
              clear hm htw hwk dn ds ht hgg hwl hdl hr hfu hlit hma hga hmb hgb hbm hbm2 ea eb HOMa HWa HCa HOa BKa HBa HM HOM HW HC HO BK HB hk9
              go_wp2_with (first
                | ((with_reducible refine gate_builtin (b := .append) (xs := #[.tmp 47, .tmp 49]) rfl ?_); at_builtin; refine Kd.R_append Kd.string (w0 := w) w.heap.size rfl (.tmp 47) (.tmp 49) 22 9 (.string ⟨#[]⟩) 16 rfl Tryd.underlying22 impl_CyclesOfLamps.infoS rfl (by decide) (by omega) (.slice Aw wy.length cw) wy t [.string t] (fun _ => True) (fun _ => False) rfl rfl rfl (fun _ hk => hk.elim) (fun _ _ => trivial) HW2.out HB2.out (below_size HB2.out) (by have := HWL.out; have := HLE.out; omega) ?_; intro v3 w3 ho hb hg hat; have HW3 := Aside0.mk ho; have HB3 := Aside0.mk hb; have HM3 := Aside0.mk (setHas_kept HM2.out hg (by obtain ⟨es3_, c3_, hbm3⟩ := setHas_block HM2.out; intro he; obtain ⟨cs_, hcs_⟩ := Kd.R_typed HW2.out MB he.symm; rw [hbm3] at hcs_; cases hcs_)); have HOM3 := Aside0.mk (setHas_kept HOM2.out hg (by obtain ⟨es3_, c3_, hbm3⟩ := setHas_block HOM2.out; intro he; obtain ⟨cs_, hcs_⟩ := Kd.R_typed HW2.out OB he.symm; rw [hbm3] at hcs_; cases hcs_)); have HC3 := Aside0.mk (Kd.R_over' HC2.out (Kd.R_typed HW2.out) (by decide) hg); have HO3 := Aside0.mk (Kd.R_after (v := .slice Aw wy.length cw) (v1 := v3) (ok := fun _ => True) HO2.out hg hat); have BK3 := Aside0.mk (blk_grown BK2.out hg (Kd.R_ne HW2.out BK2.out (by decide))); have hcl3 := (blk_cell BK3.out 0).trans rfl; clear ho hb hg hat)
                | (go_at_call 19; refine (impl_Lamps_tick.calls A0_0 c0_0 l0_0 t (tickS l0_0 t) _ (Kd.C_below HRR.out HB3.out) hc0_0 HTK.out).mono ?_; rintro e w4 ⟨rfl, hb⟩; have HM4 := Aside0.mk (setHas_below HM3.out hb); have HOM4 := Aside0.mk (setHas_below HOM3.out hb); have HW4 := Aside0.mk (Kd.R_below HW3.out hb); have HC4 := Aside0.mk (Kd.R_below HC3.out hb); have HO4 := Aside0.mk (Kd.R_below HO3.out hb); have BK4 := Aside0.mk (blk_below BK3.out hb); have HB4 := Aside0.mk (below_step HB3.out hb); clear hb hcl3))
              go_roundg g1
              case measure => omega
              case rel => exact ⟨wy ++ [t], tickS l0_0 t, rfl, HWK2, HDT2, HM4, HOM4, HW4, HC4, HO4, BK4, HB4⟩
      · have e0 : r.take k = r := List.take_of_length_le (by omega)
        rw [e0] at HC
        have hcl := (blk_cell BK.out 0).trans rfl
        obtain ⟨SZ, hSZ⟩ : ∃ SZ, SZ = szG (tickS l0_0) FU r [] := ⟨_, rfl⟩
        rw [← hSZ] at HC
        have HSZ := Aside0.mk hSZ
        clear hSZ HM HO e0
        go_wp2
        go_loopg [12, 79] (r.length + 1) (fun gg v12 v79 w' => ∃ m : Nat, m + gg = r.length + 1 ∧ v79 = .int .i64 m ∧ Aside0 (Kd.S (Kd.slice 3 (Kd.int .i64)) 38 w' w.heap.size (fun k_ => some k_ ≠ (.slice (some ⟨gc, 0, none⟩) (r.length + 1) cc : Value).ownBlock) v12 (rowsP (fun s => List.count s SZ) m)) ∧ Aside0 (Kd.R (Kd.int .i64) 3 w' w.heap.size (fun _ => True) (.slice (some ⟨gc, 0, none⟩) (r.length + 1) cc) (cntL r.length SZ)) ∧ Aside0 (w'.heap[w.heap.size]? = some (.cells #[.slice A0_0 l0_0.length c0_0] 29 (0, 0))) ∧ Aside0 (Below w.heap.size w w'))
        case atStart => exact ⟨0, by omega, rfl, ⟨Kd.S_nil _ _ _ _ _⟩, HC, BK, HB⟩
        case round => as_aux_lemma =>
          clear HC BK HB hcl
          obtain ⟨m, hms, rfl, HS, HC, BK, HB⟩ := hrel
          by_cases hp1 : m < r.length + 1
          · have hk9 : m < 1025 := by have := HLE.out; omega
            have hcll := cntL_length r.length SZ
            obtain ⟨ad, e_, hx⟩ := Kd.at_int (Kd.R_reads' HC.out).2.2 (m : Int) (by omega) (by omega)
            cases e_
            rw [cntL_rd _ _ _ (by omega)] at hx
            simp only [Int.toNat_natCast] at hx
            (first | simp only [add_plain] at hx | skip)
            have HST := Aside0.mk (rowsP_step (fun s => List.count s SZ) m)
            have HRL := Aside0.mk (rowsP_length (fun s => List.count s SZ) m)
            obtain ⟨q, hq⟩ : ∃ q : Int, q = (List.count m SZ : Int) := ⟨_, rfl⟩
            rw [← hq] at hx
            clear hcll
            have hp2 : (m : Int) < ((r.length + 1 : Nat) : Int) := by omega
            by_cases hq0 : 0 < q
            · have c0 : decide (0 < q) = true := decide_eq_true hq0
              have HST2 := Aside0.mk (show rowsP (fun s => List.count s SZ) (m + 1) = rowsP (fun s => List.count s SZ) m ++ [[(m : Int), q]] from by rw [HST.out, if_pos (by show 0 < List.count m SZ; omega), ← hq])
              obtain ⟨y, hy⟩ : ∃ y : List Int, y = [(m : Int), q] := ⟨_, rfl⟩
              have Ny := Aside0.mk hy
              clear hy hq hq0
              go_wp2_with (first
                | ((with_reducible refine gate_dst (N := 89) rfl ?_); refine Kd.R_lit (Kd.int .i64) _ 3 ?hg (N := 89) ?hd (xs := ([(m : Int), q] : List Int)) (inner := [.int .i64 m, .int .i64 q]) (ok := fun _ => True) (okp := fun _ => True) ?hr ?hp (fun _ hk => hk) trivial (Below.refl _ _) (Nat.le_refl _) (by simp) ?_; (case hd => rfl); (case hg => rfl); (case hr => first | (go_simp; done) | (go_simp; rfl)); (case hp => exact (Reps.one (show Kd.M (Kd.int .i64) _ _ _ (m : Int) [.int .i64 m] from rfl) (Reps.one (show Kd.M (Kd.int .i64) _ _ _ q [.int .i64 q] from rfl) (Reps.none _ _)))); intro v2 w2 ho hb hg_ hnew_; clear hg_ hnew_; rw [← Ny.out] at ho; have HS2 := Aside0.mk (Kd.S_elder' HS.out (Kd.R_base ho) hb); have HC2 := Aside0.mk (Kd.R_elder' HC.out (Kd.R_base ho) hb); have HL2 := Aside0.mk (Kd.R_lower (Kd.R_new' ho (Kd.R_lt HC.out)) (below_size HB.out)); have BK2 := Aside0.mk (blk_below BK.out hb); have HB2 := Aside0.mk (below_step HB.out hb); clear hb ho; obtain ⟨Ao, co, eo⟩ := Kd.R_slice HL2.out; subst eo)
                | ((with_reducible refine gate_builtin (b := .append) (xs := #[.tmp 86, .tmp 90]) rfl ?_); at_builtin; refine Kd.S_append (Kd.slice 3 (Kd.int .i64)) (w0 := w) w.heap.size rfl (.tmp 86) (.tmp 90) 26 38 (.slice none 0 0) 24 rfl Tryd.underlying26 impl_CyclesOfLamps.infoR rfl (by decide) (by omega) u12 (rowsP (fun s => List.count s SZ) m) y [.slice Ao y.length co] (fun k_ => some k_ ≠ (.slice (some ⟨gc, 0, none⟩) (r.length + 1) cc : Value).ownBlock) (fun k_ => some k_ = (.slice Ao y.length co : Value).ownBlock) rfl rfl ?aP (fun k_ hk_ => ((Kd.R_mono (ok' := fun k_ => ((fun k_ => some k_ ≠ (.slice (some ⟨gc, 0, none⟩) (r.length + 1) cc : Value).ownBlock)) k_ ∧ some k_ ≠ (u12 : Value).ownBlock) (Kd.R_apart' (HL2.out) (Kd.S_typed HS2.out) (by decide)) (fun k_ hk => ⟨hk.1.2, hk.2⟩))).1 k_ hk_.symm) ?aF ?aO ?aB ?aS ?aL ?_; (case aP => exact Kd.M_row (Kd.R_mono (Kd.R_tight rfl (Kd.R_mono (ok' := fun k_ => ((fun k_ => some k_ ≠ (.slice (some ⟨gc, 0, none⟩) (r.length + 1) cc : Value).ownBlock)) k_ ∧ some k_ ≠ (u12 : Value).ownBlock) (Kd.R_apart' (HL2.out) (Kd.S_typed HS2.out) (by decide)) (fun k_ hk => ⟨hk.1.2, hk.2⟩))) (fun _ h_ => h_))); (case aB => exact HB2.out); (case aF => exact (fun k_ hk => Kd.fresh' (Kd.R_lt HC2.out) k_ hk)); (case aO => exact Kd.S_mono HS2.out (fun k_ hk => ⟨hk.1, fun e_ => hk.2 e_⟩)); (case aS => exact (below_size HB2.out)); (case aL => have := HRL.out; omega); intro v3 w3 ho hb hg hat; rw [Ny.out, ← HST2.out] at ho; have HC3 := Aside0.mk (Kd.R_over' HC2.out (Kd.S_typed HS2.out) (by decide) hg); have BK3 := Aside0.mk (blk_grown BK2.out hg (Kd.S_ne HS2.out BK2.out (by decide))); have HB3 := Aside0.mk hb; have HS3 := Aside0.mk ho; clear ho hb hg hat))
              go_roundg (r.length - m)
              case measure => omega
              case rel => exact ⟨m + 1, by omega, congrArg (Value.int .i64) (by first | omega | (rw [w64 (by omega) (by omega)]; omega)), HS3, ⟨Kd.R_mono HC3.out (fun _ _ => trivial)⟩, BK3, HB3⟩
            · have c0 : decide (0 < q) = false := decide_eq_false hq0
              have HST2 := Aside0.mk (show rowsP (fun s => List.count s SZ) (m + 1) = rowsP (fun s => List.count s SZ) m from by rw [HST.out, if_neg (by show ¬ 0 < List.count m SZ; omega)])
              clear hq hq0
              go_wp2
              go_roundg (r.length - m)
              case measure => omega
              case rel => exact ⟨m + 1, by omega, congrArg (Value.int .i64) (by first | omega | (rw [w64 (by omega) (by omega)]; omega)), ⟨by rw [HST2.out]; exact HS.out⟩, HC, BK, HB⟩
          · have em : m = r.length + 1 := by omega
            have HR2 := Aside0.mk (show rowsP (fun s => List.count s SZ) m = r1 from by rw [← HR1.out, HSZ.out, em]; rfl)
            clear em
            go_wp2
            go_ret2
            exact ⟨_, rfl, by rw [← HR2.out]; exact Kd.S_mono HS.out (fun _ _ => trivial), HB.out⟩

/-! ### laws_eqIntS: function 21 -/
def laws_eqIntS.l0 : Nat → List Int → List Int → Int → Option (Bool)
 | 0, _, _, _ => none
 | k + 1, x0, x1, x5 => if x5 < (x0.length : Int) then (if 0 ≤ x5 then (if x5 < (x1.length : Int) then (if (rd x0 x5) = (rd x1 x5) then (laws_eqIntS.l0 k x0 x1 (wrap64 (x5 + 1))) else (some false)) else (none)) else (none)) else (some true)
def laws_eqIntS.f (k : Nat) (l0 : List Int) (l1 : List Int) : Option (Bool) := if (l0.length : Int) = (l1.length : Int) then (laws_eqIntS.l0 k l0 l1 0) else (some false)
theorem laws_eqIntS.mono_l : ∀ k, (∀ y0 y1 y2, LeO (laws_eqIntS.l0 k y0 y1 y2) (laws_eqIntS.l0 (k + 1) y0 y1 y2))
 | 0 => fun _ _ _ r h => by simp [laws_eqIntS.l0] at h
 | k + 1 => by
  have ih0 := laws_eqIntS.mono_l k
  ·intro y0 y1 y2
   unfold laws_eqIntS.l0
   repeat' first
   | (with_reducible exact ih0 _ _ _)
   | (with_reducible exact LeO.refl _)
   | (with_reducible exact LeO.none _)
   | (with_reducible refine LeO.ite ?_ ?_)
   | (with_reducible refine LeO.bind ?_ (fun _ => ?_))
   | exact ih0 _ _ _
   | exact LeO.none _
   | refine LeO.ite ?_ ?_
   | refine LeO.bind ?_ (fun _ => ?_)
theorem laws_eqIntS.mono : ∀ a0 a1 k, LeO (laws_eqIntS.f k a0 a1) (laws_eqIntS.f (k + 1) a0 a1) := by
 intro a0 a1 k
 have ih0 := laws_eqIntS.mono_l k
 unfold laws_eqIntS.f
 repeat' first
   | (with_reducible exact ih0 _ _ _)
   | (with_reducible exact LeO.refl _)
   | (with_reducible exact LeO.none _)
   | (with_reducible refine LeO.ite ?_ ?_)
   | (with_reducible refine LeO.bind ?_ (fun _ => ?_))
   | exact ih0 _ _ _
   | exact LeO.none _
   | refine LeO.ite ?_ ?_
   | refine LeO.bind ?_ (fun _ => ?_)
set_option maxHeartbeats 8000000 in
set_option maxRecDepth 100000 in
theorem laws_eqIntS.calls (k : Nat) (A0 : Option Addr) (c0 : Nat) (l0 : List Int) (A1 : Option Addr) (c1 : Nat) (l1 : List Int) (r : Bool) (w : World) (hr0 : Kd.C (Kd.int .i64) w A0 l0.length l0) (hc0 : l0.length ≤ c0) (hr1 : Kd.C (Kd.int .i64) w A1 l1.length l1) (hc1 : l1.length ≤ c1) (h : laws_eqIntS.f k l0 l1 = some r) :
  Calls Tryd.prog 21 #[.slice A0 l0.length c0, .slice A1 l1.length c1] w fun e w' => e = .returned (.bool r) ∧ Drawn0 w w' := by
 have HR0 := Aside0.mk hr0
 have HC0 := Aside0.mk hc0
 clear hr0 hc0
 have HR1 := Aside0.mk hr1
 have HC1 := Aside0.mk hc1
 clear hr1 hc1
 have H : (if (l0.length : Int) = (l1.length : Int) then (laws_eqIntS.l0 k l0 l1 0) else (some false)) = some r := h
 clear h
 by_cases c3 : (l0.length : Int) = (l1.length : Int)
 ·rw [if_pos c3] at H
  have c3b0 : ((l0.length : Int) == (l1.length : Int)) = true := beq_iff_eq.mpr c3
  have c3b1 : ((l0.length : Int) != (l1.length : Int)) = false := bne_eq_false_iff_eq.mpr c3
  have c3b2 : (l0.length == l1.length) = true := by first | simpa using c3 | (simp at c3 ⊢; omega)
  clear c3
  have H' := Aside0.mk H
  clear H
  go_enter Tryd.func21, Tryd.ntmps21
  go_wp2
  repeat (go_quiet (fail); try go_wp2)
  go_loopg [5] k (fun kq v5 w' => ∃ (x5_1 : Int), v5 = .int .i64 x5_1 ∧ Aside0 (laws_eqIntS.l0 kq l0 l1 x5_1 = some r) ∧ Aside0 (kq ≤ k) ∧ Drawn0 w w')
  case atStart => exact ⟨(0), (by first | rfl | (simp; done) | (simp [*]; done)), H', ⟨Nat.le_refl _⟩, by repeat (first | exact Drawn0.refl _ | apply Drawn0.step)⟩
  case round =>
   clear H'
   try clear c1
   try clear c2
   try clear p2
   try clear c3
   try clear c3b0
   try clear c3b1
   try clear c3b2
   obtain ⟨x5_1, rfl, HA, HK1, ⟨m1, rfl⟩⟩ := hrel
   cases gk with
   | zero => exact absurd HA.out (by simp [laws_eqIntS.l0])
   | succ k1 =>
    have H := HA.out
    clear HA
    simp only [laws_eqIntS.l0] at H
    by_cases c4 : x5_1 < (l0.length : Int)
    ·rw [if_pos c4] at H
     have c4b0 : decide (x5_1 < (l0.length : Int)) = true := decide_eq_true c4
     clear c4
     by_cases c5 : 0 ≤ x5_1
     ·rw [if_pos c5] at H
      have c5b0 : decide (0 ≤ x5_1) = true := decide_eq_true c5
      clear c5
      by_cases c6 : x5_1 < (l1.length : Int)
      ·rw [if_pos c6] at H
       have c6b0 : decide (x5_1 < (l1.length : Int)) = true := decide_eq_true c6
       clear c6
       by_cases c7 : (rd l0 x5_1) = (rd l1 x5_1)
       ·rw [if_pos c7] at H
        have c7b0 : ((rd l0 x5_1) == (rd l1 x5_1)) = true := beq_iff_eq.mpr c7
        have c7b1 : ((rd l0 x5_1) != (rd l1 x5_1)) = false := bne_eq_false_iff_eq.mpr c7
        clear c7
        have H' := Aside0.mk H
        clear H
        have p168 : 0 ≤ (x5_1 : Int) := of_decide_eq_true (by first | (with_reducible assumption) | assumption)
        have q168 : x5_1 < (l0.length : Int) := of_decide_eq_true (by first | (with_reducible assumption) | assumption)
        obtain ⟨ad168, e168, hx168_0⟩ := Kd.at_int HR0.out x5_1 p168 q168
        cases e168
        replace p168 := eq_true p168
        replace q168 := eq_true q168
        have p169 : 0 ≤ (x5_1 : Int) := of_decide_eq_true (by first | (with_reducible assumption) | assumption)
        have q169 : x5_1 < (l1.length : Int) := of_decide_eq_true (by first | (with_reducible assumption) | assumption)
        obtain ⟨ad169, e169, hx169_0⟩ := Kd.at_int HR1.out x5_1 p169 q169
        cases e169
        replace p169 := eq_true p169
        replace q169 := eq_true q169
        go_wp2
        repeat (go_quiet (fail); try go_wp2)
        go_roundg k1
        case measure => have := HK1.out; omega
        case rel => exact ⟨(wrap64 (x5_1 + 1)), (by first | rfl | (simp; done) | (simp [*]; done)), H', ⟨by have := HK1.out; omega⟩, by repeat (first | exact Drawn0.refl _ | apply Drawn0.step)⟩
       ·rw [if_neg c7] at H
        have c7b0 : ((rd l0 x5_1) == (rd l1 x5_1)) = false := beq_eq_false_iff_ne.mpr c7
        have c7b1 : ((rd l0 x5_1) != (rd l1 x5_1)) = true := bne_iff_ne.mpr c7
        obtain rfl := Option.some.inj H
        have p168 : 0 ≤ (x5_1 : Int) := of_decide_eq_true (by first | (with_reducible assumption) | assumption)
        have q168 : x5_1 < (l0.length : Int) := of_decide_eq_true (by first | (with_reducible assumption) | assumption)
        obtain ⟨ad168, e168, hx168_0⟩ := Kd.at_int HR0.out x5_1 p168 q168
        cases e168
        replace p168 := eq_true p168
        replace q168 := eq_true q168
        have p169 : 0 ≤ (x5_1 : Int) := of_decide_eq_true (by first | (with_reducible assumption) | assumption)
        have q169 : x5_1 < (l1.length : Int) := of_decide_eq_true (by first | (with_reducible assumption) | assumption)
        obtain ⟨ad169, e169, hx169_0⟩ := Kd.at_int HR1.out x5_1 p169 q169
        cases e169
        replace p169 := eq_true p169
        replace q169 := eq_true q169
        go_wp2
        repeat (go_quiet (fail); try go_wp2)
        go_ret
        exact ⟨by first | rfl | (simp; done) | (simp [*]; done), by repeat (first | exact Drawn0.refl _ | apply Drawn0.step)⟩
      ·rw [if_neg c6] at H
       exact absurd H (by simp)
     ·rw [if_neg c5] at H
      exact absurd H (by simp)
    ·rw [if_neg c4] at H
     have c4b0 : decide (x5_1 < (l0.length : Int)) = false := decide_eq_false c4
     clear c4
     obtain rfl := Option.some.inj H
     go_wp2
     repeat (go_quiet (fail); try go_wp2)
     go_ret
     exact ⟨by first | rfl | (simp; done) | (simp [*]; done), by repeat (first | exact Drawn0.refl _ | apply Drawn0.step)⟩
 ·rw [if_neg c3] at H
  have c3b0 : ((l0.length : Int) == (l1.length : Int)) = false := beq_eq_false_iff_ne.mpr c3
  have c3b1 : ((l0.length : Int) != (l1.length : Int)) = true := bne_iff_ne.mpr c3
  have c3b2 : (l0.length == l1.length) = false := by first | simpa using c3 | (simp at c3 ⊢; omega)
  obtain rfl := Option.some.inj H
  go_enter Tryd.func21, Tryd.ntmps21
  go_wp2
  repeat (go_quiet (fail); try go_wp2)
  go_ret
  exact ⟨by first | rfl | (simp; done) | (simp [*]; done), by repeat (first | exact Drawn0.refl _ | apply Drawn0.step)⟩

/-! ### laws_eqIntSS: function 8 -/
def laws_eqIntSS.l0 : Nat → List (List Int) → List (List Int) → Int → Option (Bool)
 | 0, _, _, _ => none
 | k + 1, x0, x1, x5 => if x5 < (x0.length : Int) then (if 0 ≤ x5 then (if x5 < (x1.length : Int) then ((laws_eqIntS.f k (rd_L6 x0 x5) (rd_L6 x1 x5)).bind fun t172 => (if t172 = true then (laws_eqIntSS.l0 k x0 x1 (wrap64 (x5 + 1))) else (some false))) else (none)) else (none)) else (some true)
def laws_eqIntSS.f (k : Nat) (l0 : List (List Int)) (l1 : List (List Int)) : Option (Bool) := if (l0.length : Int) = (l1.length : Int) then (laws_eqIntSS.l0 k l0 l1 0) else (some false)
theorem laws_eqIntSS.mono_l : ∀ k, (∀ y0 y1 y2, LeO (laws_eqIntSS.l0 k y0 y1 y2) (laws_eqIntSS.l0 (k + 1) y0 y1 y2))
 | 0 => fun _ _ _ r h => by simp [laws_eqIntSS.l0] at h
 | k + 1 => by
  have ih0 := laws_eqIntSS.mono_l k
  ·intro y0 y1 y2
   unfold laws_eqIntSS.l0
   repeat' first
   | (with_reducible exact ih0 _ _ _)
   | (with_reducible exact laws_eqIntS.mono _ _ _)
   | (with_reducible exact LeO.refl _)
   | (with_reducible exact LeO.none _)
   | (with_reducible refine LeO.ite ?_ ?_)
   | (with_reducible refine LeO.bind ?_ (fun _ => ?_))
   | exact ih0 _ _ _
   | exact laws_eqIntS.mono _ _ _
   | exact LeO.none _
   | refine LeO.ite ?_ ?_
   | refine LeO.bind ?_ (fun _ => ?_)
theorem laws_eqIntSS.mono : ∀ a0 a1 k, LeO (laws_eqIntSS.f k a0 a1) (laws_eqIntSS.f (k + 1) a0 a1) := by
 intro a0 a1 k
 have ih0 := laws_eqIntSS.mono_l k
 unfold laws_eqIntSS.f
 repeat' first
   | (with_reducible exact ih0 _ _ _)
   | (with_reducible exact laws_eqIntS.mono _ _ _)
   | (with_reducible exact LeO.refl _)
   | (with_reducible exact LeO.none _)
   | (with_reducible refine LeO.ite ?_ ?_)
   | (with_reducible refine LeO.bind ?_ (fun _ => ?_))
   | exact ih0 _ _ _
   | exact laws_eqIntS.mono _ _ _
   | exact LeO.none _
   | refine LeO.ite ?_ ?_
   | refine LeO.bind ?_ (fun _ => ?_)
set_option maxHeartbeats 8000000 in
set_option maxRecDepth 100000 in
theorem laws_eqIntSS.calls (k : Nat) (A0 : Option Addr) (c0 : Nat) (l0 : List (List Int)) (A1 : Option Addr) (c1 : Nat) (l1 : List (List Int)) (r : Bool) (w : World) (hr0 : Kd.C (Kd.slice 3 (Kd.int .i64)) w A0 l0.length l0) (hc0 : l0.length ≤ c0) (hr1 : Kd.C (Kd.slice 3 (Kd.int .i64)) w A1 l1.length l1) (hc1 : l1.length ≤ c1) (h : laws_eqIntSS.f k l0 l1 = some r) :
  Calls Tryd.prog 8 #[.slice A0 l0.length c0, .slice A1 l1.length c1] w fun e w' => e = .returned (.bool r) ∧ Drawn0 w w' := by
 have HR0 := Aside0.mk hr0
 have HC0 := Aside0.mk hc0
 clear hr0 hc0
 have HR1 := Aside0.mk hr1
 have HC1 := Aside0.mk hc1
 clear hr1 hc1
 have H : (if (l0.length : Int) = (l1.length : Int) then (laws_eqIntSS.l0 k l0 l1 0) else (some false)) = some r := h
 clear h
 by_cases c3 : (l0.length : Int) = (l1.length : Int)
 ·rw [if_pos c3] at H
  have c3b0 : ((l0.length : Int) == (l1.length : Int)) = true := beq_iff_eq.mpr c3
  have c3b1 : ((l0.length : Int) != (l1.length : Int)) = false := bne_eq_false_iff_eq.mpr c3
  have c3b2 : (l0.length == l1.length) = true := by first | simpa using c3 | (simp at c3 ⊢; omega)
  clear c3
  have H' := Aside0.mk H
  clear H
  go_enter Tryd.func8, Tryd.ntmps8
  go_wp2
  repeat (go_quiet (fail); try go_wp2)
  go_loopg [5] k (fun kq v5 w' => ∃ (x5_1 : Int), v5 = .int .i64 x5_1 ∧ Aside0 (laws_eqIntSS.l0 kq l0 l1 x5_1 = some r) ∧ Aside0 (kq ≤ k) ∧ Drawn0 w w')
  case atStart => exact ⟨(0), (by first | rfl | (simp; done) | (simp [*]; done)), H', ⟨Nat.le_refl _⟩, by repeat (first | exact Drawn0.refl _ | apply Drawn0.step)⟩
  case round =>
   clear H'
   try clear c1
   try clear p2
   try clear c3
   try clear c3b0
   try clear c3b1
   try clear c3b2
   obtain ⟨x5_1, rfl, HA, HK1, ⟨m1, rfl⟩⟩ := hrel
   cases gk with
   | zero => exact absurd HA.out (by simp [laws_eqIntSS.l0])
   | succ k1 =>
    have H := HA.out
    clear HA
    simp only [laws_eqIntSS.l0] at H
    by_cases c4 : x5_1 < (l0.length : Int)
    ·rw [if_pos c4] at H
     have c4b0 : decide (x5_1 < (l0.length : Int)) = true := decide_eq_true c4
     clear c4
     by_cases c5 : 0 ≤ x5_1
     ·rw [if_pos c5] at H
      have c5b0 : decide (0 ≤ x5_1) = true := decide_eq_true c5
      clear c5
      by_cases c6 : x5_1 < (l1.length : Int)
      ·rw [if_pos c6] at H
       have c6b0 : decide (x5_1 < (l1.length : Int)) = true := decide_eq_true c6
       clear c6
       replace H := Option.bind_eq_some_iff.mp H
       obtain ⟨t172, A70, H⟩ := H
       replace H : (if t172 = true then (laws_eqIntSS.l0 k1 l0 l1 (wrap64 (x5_1 + 1))) else (some false)) = some r := H
       have A7 := Aside0.mk A70
       clear A70
       by_cases c8 : t172 = true
       ·subst c8
        have H1 : (laws_eqIntSS.l0 k1 l0 l1 (wrap64 (x5_1 + 1))) = some r := by rw [if_pos rfl] at H; exact H
        clear H
        have H := H1
        clear H1
        have H' := Aside0.mk H
        clear H
        have p170 : 0 ≤ (x5_1 : Int) := of_decide_eq_true (by first | (with_reducible assumption) | assumption)
        have q170 : x5_1 < (l0.length : Int) := of_decide_eq_true (by first | (with_reducible assumption) | assumption)
        obtain ⟨ad170, A170_0, c170_0, e170, hx170_0, hl170_0, hi170_0⟩ := at_L6 HR0.out x5_1 p170 q170
        cases e170
        have HR170_0 := Aside0.mk hi170_0
        have HC170_0 := Aside0.mk hl170_0
        clear hi170_0 hl170_0
        replace p170 := eq_true p170
        replace q170 := eq_true q170
        have p171 : 0 ≤ (x5_1 : Int) := of_decide_eq_true (by first | (with_reducible assumption) | assumption)
        have q171 : x5_1 < (l1.length : Int) := of_decide_eq_true (by first | (with_reducible assumption) | assumption)
        obtain ⟨ad171, A171_0, c171_0, e171, hx171_0, hl171_0, hi171_0⟩ := at_L6 HR1.out x5_1 p171 q171
        cases e171
        have HR171_0 := Aside0.mk hi171_0
        have HC171_0 := Aside0.mk hl171_0
        clear hi171_0 hl171_0
        replace p171 := eq_true p171
        replace q171 := eq_true q171
        go_wp2_with (first | (go_at_call 21; (with_reducible refine (laws_eqIntS.calls k1 _ _ (rd_L6 l0 x5_1) _ _ (rd_L6 l1 x5_1) true _ ?side1 ?side2 ?side3 ?side4 A7.out).mono ?_); (case side1 => repeat (first | exact HR170_0.out | (with_reducible refine Kd.C_alloc ?_ _) | (with_reducible refine Kd.C_drewN ?_ _) | (with_reducible refine Kd.C_drew ?_))); (case side2 => exact HC170_0.out); (case side3 => repeat (first | exact HR171_0.out | (with_reducible refine Kd.C_alloc ?_ _) | (with_reducible refine Kd.C_drewN ?_ _) | (with_reducible refine Kd.C_drew ?_))); (case side4 => exact HC171_0.out); rintro e w' ⟨rfl, ⟨nd, rfl⟩⟩; (try first | exact ⟨rfl, _, World.drewN_drewN _ _ _⟩ | exact ⟨rfl, _, Eq.trans (World.drewN_drewN _ _ _) (congrArg (World.drewN _) (Nat.add_assoc _ _ _))⟩)))
        repeat (go_quiet (first | (go_at_call 21; (with_reducible refine (laws_eqIntS.calls k1 _ _ (rd_L6 l0 x5_1) _ _ (rd_L6 l1 x5_1) true _ ?side1 ?side2 ?side3 ?side4 A7.out).mono ?_); (case side1 => repeat (first | exact HR170_0.out | (with_reducible refine Kd.C_alloc ?_ _) | (with_reducible refine Kd.C_drewN ?_ _) | (with_reducible refine Kd.C_drew ?_))); (case side2 => exact HC170_0.out); (case side3 => repeat (first | exact HR171_0.out | (with_reducible refine Kd.C_alloc ?_ _) | (with_reducible refine Kd.C_drewN ?_ _) | (with_reducible refine Kd.C_drew ?_))); (case side4 => exact HC171_0.out); rintro e w' ⟨rfl, ⟨nd, rfl⟩⟩; (try first | exact ⟨rfl, _, World.drewN_drewN _ _ _⟩ | exact ⟨rfl, _, Eq.trans (World.drewN_drewN _ _ _) (congrArg (World.drewN _) (Nat.add_assoc _ _ _))⟩))); try go_wp2_with (first | (go_at_call 21; (with_reducible refine (laws_eqIntS.calls k1 _ _ (rd_L6 l0 x5_1) _ _ (rd_L6 l1 x5_1) true _ ?side1 ?side2 ?side3 ?side4 A7.out).mono ?_); (case side1 => repeat (first | exact HR170_0.out | (with_reducible refine Kd.C_alloc ?_ _) | (with_reducible refine Kd.C_drewN ?_ _) | (with_reducible refine Kd.C_drew ?_))); (case side2 => exact HC170_0.out); (case side3 => repeat (first | exact HR171_0.out | (with_reducible refine Kd.C_alloc ?_ _) | (with_reducible refine Kd.C_drewN ?_ _) | (with_reducible refine Kd.C_drew ?_))); (case side4 => exact HC171_0.out); rintro e w' ⟨rfl, ⟨nd, rfl⟩⟩; (try first | exact ⟨rfl, _, World.drewN_drewN _ _ _⟩ | exact ⟨rfl, _, Eq.trans (World.drewN_drewN _ _ _) (congrArg (World.drewN _) (Nat.add_assoc _ _ _))⟩))))
        go_roundg k1
        case measure => have := HK1.out; omega
        case rel => exact ⟨(wrap64 (x5_1 + 1)), (by first | rfl | (simp; done) | (simp [*]; done)), H', ⟨by have := HK1.out; omega⟩, by repeat (first | exact Drawn0.refl _ | apply Drawn0.step)⟩
       ·replace c8 := Bool.eq_false_iff.mpr c8
        subst c8
        have H1 : (some false) = some r := by rw [if_neg (show ¬ (false = true) by decide)] at H; exact H
        clear H
        have H := H1
        clear H1
        obtain rfl := Option.some.inj H
        have p170 : 0 ≤ (x5_1 : Int) := of_decide_eq_true (by first | (with_reducible assumption) | assumption)
        have q170 : x5_1 < (l0.length : Int) := of_decide_eq_true (by first | (with_reducible assumption) | assumption)
        obtain ⟨ad170, A170_0, c170_0, e170, hx170_0, hl170_0, hi170_0⟩ := at_L6 HR0.out x5_1 p170 q170
        cases e170
        have HR170_0 := Aside0.mk hi170_0
        have HC170_0 := Aside0.mk hl170_0
        clear hi170_0 hl170_0
        replace p170 := eq_true p170
        replace q170 := eq_true q170
        have p171 : 0 ≤ (x5_1 : Int) := of_decide_eq_true (by first | (with_reducible assumption) | assumption)
        have q171 : x5_1 < (l1.length : Int) := of_decide_eq_true (by first | (with_reducible assumption) | assumption)
        obtain ⟨ad171, A171_0, c171_0, e171, hx171_0, hl171_0, hi171_0⟩ := at_L6 HR1.out x5_1 p171 q171
        cases e171
        have HR171_0 := Aside0.mk hi171_0
        have HC171_0 := Aside0.mk hl171_0
        clear hi171_0 hl171_0
        replace p171 := eq_true p171
        replace q171 := eq_true q171
        go_wp2_with (first | (go_at_call 21; (with_reducible refine (laws_eqIntS.calls k1 _ _ (rd_L6 l0 x5_1) _ _ (rd_L6 l1 x5_1) false _ ?side1 ?side2 ?side3 ?side4 A7.out).mono ?_); (case side1 => repeat (first | exact HR170_0.out | (with_reducible refine Kd.C_alloc ?_ _) | (with_reducible refine Kd.C_drewN ?_ _) | (with_reducible refine Kd.C_drew ?_))); (case side2 => exact HC170_0.out); (case side3 => repeat (first | exact HR171_0.out | (with_reducible refine Kd.C_alloc ?_ _) | (with_reducible refine Kd.C_drewN ?_ _) | (with_reducible refine Kd.C_drew ?_))); (case side4 => exact HC171_0.out); rintro e w' ⟨rfl, ⟨nd, rfl⟩⟩; (try first | exact ⟨rfl, _, World.drewN_drewN _ _ _⟩ | exact ⟨rfl, _, Eq.trans (World.drewN_drewN _ _ _) (congrArg (World.drewN _) (Nat.add_assoc _ _ _))⟩)))
        repeat (go_quiet (first | (go_at_call 21; (with_reducible refine (laws_eqIntS.calls k1 _ _ (rd_L6 l0 x5_1) _ _ (rd_L6 l1 x5_1) false _ ?side1 ?side2 ?side3 ?side4 A7.out).mono ?_); (case side1 => repeat (first | exact HR170_0.out | (with_reducible refine Kd.C_alloc ?_ _) | (with_reducible refine Kd.C_drewN ?_ _) | (with_reducible refine Kd.C_drew ?_))); (case side2 => exact HC170_0.out); (case side3 => repeat (first | exact HR171_0.out | (with_reducible refine Kd.C_alloc ?_ _) | (with_reducible refine Kd.C_drewN ?_ _) | (with_reducible refine Kd.C_drew ?_))); (case side4 => exact HC171_0.out); rintro e w' ⟨rfl, ⟨nd, rfl⟩⟩; (try first | exact ⟨rfl, _, World.drewN_drewN _ _ _⟩ | exact ⟨rfl, _, Eq.trans (World.drewN_drewN _ _ _) (congrArg (World.drewN _) (Nat.add_assoc _ _ _))⟩))); try go_wp2_with (first | (go_at_call 21; (with_reducible refine (laws_eqIntS.calls k1 _ _ (rd_L6 l0 x5_1) _ _ (rd_L6 l1 x5_1) false _ ?side1 ?side2 ?side3 ?side4 A7.out).mono ?_); (case side1 => repeat (first | exact HR170_0.out | (with_reducible refine Kd.C_alloc ?_ _) | (with_reducible refine Kd.C_drewN ?_ _) | (with_reducible refine Kd.C_drew ?_))); (case side2 => exact HC170_0.out); (case side3 => repeat (first | exact HR171_0.out | (with_reducible refine Kd.C_alloc ?_ _) | (with_reducible refine Kd.C_drewN ?_ _) | (with_reducible refine Kd.C_drew ?_))); (case side4 => exact HC171_0.out); rintro e w' ⟨rfl, ⟨nd, rfl⟩⟩; (try first | exact ⟨rfl, _, World.drewN_drewN _ _ _⟩ | exact ⟨rfl, _, Eq.trans (World.drewN_drewN _ _ _) (congrArg (World.drewN _) (Nat.add_assoc _ _ _))⟩))))
        go_ret
        exact ⟨by first | rfl | (simp; done) | (simp [*]; done), by repeat (first | exact Drawn0.refl _ | apply Drawn0.step)⟩
      ·rw [if_neg c6] at H
       exact absurd H (by simp)
     ·rw [if_neg c5] at H
      exact absurd H (by simp)
    ·rw [if_neg c4] at H
     have c4b0 : decide (x5_1 < (l0.length : Int)) = false := decide_eq_false c4
     clear c4
     obtain rfl := Option.some.inj H
     go_wp2
     repeat (go_quiet (fail); try go_wp2)
     go_ret
     exact ⟨by first | rfl | (simp; done) | (simp [*]; done), by repeat (first | exact Drawn0.refl _ | apply Drawn0.step)⟩
 ·rw [if_neg c3] at H
  have c3b0 : ((l0.length : Int) == (l1.length : Int)) = false := beq_eq_false_iff_ne.mpr c3
  have c3b1 : ((l0.length : Int) != (l1.length : Int)) = true := bne_iff_ne.mpr c3
  have c3b2 : (l0.length == l1.length) = false := by first | simpa using c3 | (simp at c3 ⊢; omega)
  obtain rfl := Option.some.inj H
  go_enter Tryd.func8, Tryd.ntmps8
  go_wp2
  repeat (go_quiet (fail); try go_wp2)
  go_ret
  exact ⟨by first | rfl | (simp; done) | (simp [*]; done), by repeat (first | exact Drawn0.refl _ | apply Drawn0.step)⟩

end Go.Proofs.YtafkcmohbgcknaaDoor.PCyc
