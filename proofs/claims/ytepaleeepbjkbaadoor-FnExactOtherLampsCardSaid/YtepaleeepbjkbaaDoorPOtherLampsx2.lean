-- PRINTED by drive.py (a program of this session's, over the kit's print.py; wip/tools/drive.py). Lean checks it.
import Derived.Test.YtepaleeepbjkbaaDoorPOtherLampsx0
import Derived.Test.YtepaleeepbjkbaaDoorPOtherLampsx1
namespace Go.Proofs.YtepaleeepbjkbaaDoor.POtherLamps
open Go.RowKit Go.Proofs.YtepaleeepbjkbaaDoorW.PrintWords Go.Proofs.YtepaleeepbjkbaaDoorW.PrintLast Go.Proofs.YtepaleeepbjkbaaDoorW.PrintMore
attribute [local go_sem] max2_int min2_int max_two min_two max_three min_three max_four min_four   -- for this text's walks alone
set_option linter.unusedVariables false
set_option linter.unusedSimpArgs false

/-! ### spec_laGood: function 62 -/
-- by hand (wip/ext/laGood.tpl)
def spec_laGood.f (l0_0 : List ByteArray) : Option Bool := some (areLampsB l0_0)
set_option maxHeartbeats 4000000 in
set_option maxRecDepth 100000 in
theorem spec_laGood.calls (A0_0 : Option Addr) (c0_0 : Nat) (l0_0 : List ByteArray) (r : Bool) (w : World) (hr0_0 : Kd.C Kd.string w A0_0 l0_0.length l0_0) (hc0_0 : l0_0.length ≤ c0_0) (h : spec_laGood.f l0_0 = some r) :
    Calls Tryd.prog 62 #[.agg #[.slice A0_0 l0_0.length c0_0]] w fun e w' => e = .returned (.bool r) ∧ Below w.heap.size w w' := by
  obtain rfl := Option.some.inj h
  clear h
  have hl := hr0_0.2.1
  have hu := Tryd.underlying37
  have hus := Tryd.underlying9
  have HI := Aside0.mk (fun w1 => spec_l1In.calls l0_0.length 1 10 _ w1 (inB_ite l0_0.length 1 10))
  obtain ⟨R, hR⟩ : ∃ R, R = areLampsB l0_0 := ⟨_, rfl⟩
  rw [← hR]
  have HX := Aside0.mk hR
  have HR := Aside0.mk hr0_0
  clear hr0_0 hR
  obtain ⟨b, hb⟩ : ∃ b, b = inB l0_0.length 1 10 := ⟨_, rfl⟩
  rw [← hb] at HI
  have HBB := Aside0.mk hb
  clear hb
  cases b with
  | false =>
    go_enter Tryd.func62, Tryd.ntmps62
    go_wp2_with (go_at_call 63; refine (HI.out _).mono ?_; rintro e w' ⟨rfl, ⟨n, rfl⟩⟩)
    go_ret
    exact ⟨ret_bool (by rw [HX.out, areLampsB, ← HBB.out]; rfl), pw_below_drewN (below_alloc (Below.refl _ _) _) _⟩
  | true =>
    go_enter Tryd.func62, Tryd.ntmps62
    go_wp2_with (go_at_call 63; refine (HI.out _).mono ?_; rintro e w' ⟨rfl, ⟨n, rfl⟩⟩)
    have HX2 := Aside0.mk (show R = l0_0.all (needB l0_0.length) by rw [HX.out, areLampsB, ← HBB.out]; rfl)
    clear HX HBB HI
    go_loopg [14] l0_0.length (fun gg v14 w' => ∃ k : Nat, k + gg = l0_0.length ∧ v14 = .int .i64 k ∧ Aside0 (∀ j (hj : j < l0_0.length), j < k → needB l0_0.length l0_0[j] = true) ∧ w'.cell? ⟨w.heap.size, 0, none⟩ = some (.slice A0_0 l0_0.length c0_0) ∧ Aside0 (Below w.heap.size w w'))
    case atStart => exact ⟨0, by omega, rfl, ⟨fun j _ h => absurd h (by omega)⟩, by go_simp, ⟨pw_below_drewN (below_alloc (Below.refl _ _) _) _⟩⟩
    case round =>
      obtain ⟨k, hk, rfl, HN, hcl, HB⟩ := hrel
      by_cases hlt : k < l0_0.length
      · obtain ⟨ad, rfl, hx0⟩ := Kd.at_string HR.out (k : Int) (by omega) (by omega)
        simp only [Int.toNat_natCast] at hx0
        replace hx0 := (HB.out.cell (World.block_lt_of_cell? w _ hx0)).trans hx0
        have ex : rdOf ByteArray.empty l0_0 (k : Int) = l0_0[k] := by simp [rdOf, hlt]
        rw [ex] at hx0
        clear ex
        obtain ⟨s, hs⟩ : ∃ s, s = l0_0[k] := ⟨_, rfl⟩
        rw [← hs] at hx0
        have HS := Aside0.mk hs
        clear hs
        have HZ := Aside0.mk (show s.size = s.data.toList.length from Lib.size_eq s)
        by_cases c1 : s.size = l0_0.length
        · have c1b : ((s.size : Int) != (l0_0.length : Int)) = false := bne_eq_false_iff_eq.mpr (by omega)
          have C1 := Aside0.mk c1
          clear c1
          go_wp2
          obtain ⟨K, hK⟩ : ∃ K, K = wr.heap.size := ⟨_, rfl⟩
          rw [← hK]
          have hlt0 : w.heap.size < K := by rw [hK]; exact World.block_lt_of_cell? wr _ hcl
          have hcl0 : (wr.iter s 0).cell? ⟨w.heap.size, 0, none⟩ = some (.slice (some ad) l0_0.length c0_0) := (World.cell?_alloc_past _ _ _ (by simpa [← hK] using hlt0)).trans hcl
          have hi0 : (wr.iter s 0).heap[K]? = some (.stringIter s 0) := by rw [hK]; exact World.iter_heap wr s 0
          have hb0 : Below w.heap.size w (wr.iter s 0) := HB.out.alloc (below_size HB.out) _
          have HHI := Aside0.mk hi0
          have HHB := Aside0.mk hb0
          have HLT := Aside0.mk hlt0
          clear hi0 hb0 hlt0 hK hcl HB hx0
          generalize wr.iter s 0 = W0 at hcl0 HHI HHB ⊢
          go_loopg [5] s.size (fun gg v5 w' => ∃ pos : Nat, pos + gg = s.size ∧ Aside0 (∀ j (hj : j < s.data.toList.length), j < pos → isSign s.data.toList[j] = true) ∧ Aside0 (w'.heap[K]? = some (.stringIter s pos)) ∧ w'.cell? ⟨w.heap.size, 0, none⟩ = some (.slice (some ad) l0_0.length c0_0) ∧ Aside0 (Below w.heap.size w w'))
          case atStart => exact ⟨0, by omega, ⟨fun j _ h => absurd h (by omega)⟩, HHI, hcl0, HHB⟩
          case round =>
            clear HHI HHB hcl0
            obtain ⟨pos, hps, HP, HI, hcl, HB⟩ := hrel
            by_cases hp : pos < s.size
            · have hpl : pos < s.data.toList.length := by rw [← HZ.out]; exact hp
              have hnext : ∀ ty, (Instr.next (.pointer (some ⟨K, 0, none⟩)) true ty).run Tryd.prog wr = _ := fun ty => Lib.run_next_any_at wr K s pos ty HI.out hp
              have hk1 := Lib.iterAt_heap wr K s pos (pos + (Utf8.decode s pos).2) HI.out
              have hb1 := Lib.below_iterAt HB.out (Nat.le_of_lt HLT.out) s (pos + (Utf8.decode s pos).2)
              have hcl1 : (wr.iterAt K s (pos + (Utf8.decode s pos).2)).cell? ⟨w.heap.size, 0, none⟩ = some (.slice (some ad) l0_0.length c0_0) := (cell_iterAt wr K s _ _ (by have := HLT.out; simp; omega)).trans hcl
              have hd := Aside0.mk (decode_sign s pos hp hpl)
              have eb := bt_nat s pos hpl
              obtain ⟨b, hb⟩ : ∃ b, b = s.data.toList[pos] := ⟨_, rfl⟩
              rw [← hb] at hd eb
              have HBY := Aside0.mk hb
              clear hb
              have HK1 := Aside0.mk hk1
              have HB1 := Aside0.mk hb1
              clear hk1 hb1 hcl HI HB
              generalize wr.iterAt K s (pos + (Utf8.decode s pos).2) = W1 at hnext HK1 HB1 hcl1
              generalize (Utf8.decode s pos).1 = rn at hnext
              generalize (Utf8.decode s pos).2 = dn at hd HK1
              have q8 := byte_toInt b 48 (by omega)
              have q9 := byte_toInt b 49 (by omega)
              have q63 := byte_toInt b 63 (by omega)
              rw [← eb] at q8 q9 q63
              have p6 : (0 ≤ (pos : Int)) = True := eq_true (by omega)
              have q6 : ((pos : Int) < (s.size : Int)) = True := eq_true (by omega)
              have hx6 : ((s[pos]'hp).toNat : Int) = bt s pos := by have := bt_at s (pos : Int) (by simpa using hp); simpa using this
              clear eb
              by_cases c8 : b = 48
              · have c8a : (bt s pos == 48) = true := beq_iff_eq.mpr (q8.mpr c8)
                have c8b : (bt s pos != 48) = false := bne_eq_false_iff_eq.mpr (q8.mpr c8)
                have hn := hd.out (by subst c8; rfl)
                subst hn
                have CC := Aside0.mk (show isSign b = true by subst c8; rfl)
                clear c8 q8 q9 q63 hd
                go_wp2
                go_roundg (s.size - (pos + 1))
                case measure => omega
                case rel => exact ⟨pos + 1, by omega, ⟨fun j hj h => (Nat.lt_succ_iff_lt_or_eq.1 h).elim (HP.out j hj) (fun e => by subst e; rw [← HBY.out]; exact CC.out)⟩, HK1, hcl1, HB1⟩
              · have c8a : (bt s pos == 48) = false := beq_eq_false_iff_ne.mpr (fun h => c8 (q8.mp h))
                have c8b : (bt s pos != 48) = true := bne_iff_ne.mpr (fun h => c8 (q8.mp h))
                by_cases c9 : b = 49
                · have c9a : (bt s pos == 49) = true := beq_iff_eq.mpr (q9.mpr c9)
                  have c9b : (bt s pos != 49) = false := bne_eq_false_iff_eq.mpr (q9.mpr c9)
                  have hn := hd.out (by subst c9; rfl)
                  subst hn
                  have CC := Aside0.mk (show isSign b = true by subst c9; rfl)
                  clear c9 c8 q8 q9 q63 hd
                  go_wp2
                  go_roundg (s.size - (pos + 1))
                  case measure => omega
                  case rel => exact ⟨pos + 1, by omega, ⟨fun j hj h => (Nat.lt_succ_iff_lt_or_eq.1 h).elim (HP.out j hj) (fun e => by subst e; rw [← HBY.out]; exact CC.out)⟩, HK1, hcl1, HB1⟩
                · have c9a : (bt s pos == 49) = false := beq_eq_false_iff_ne.mpr (fun h => c9 (q9.mp h))
                  have c9b : (bt s pos != 49) = true := bne_iff_ne.mpr (fun h => c9 (q9.mp h))
                  by_cases c63 : b = 63
                  · have c63a : (bt s pos == 63) = true := beq_iff_eq.mpr (q63.mpr c63)
                    have c63b : (bt s pos != 63) = false := bne_eq_false_iff_eq.mpr (q63.mpr c63)
                    have hn := hd.out (by subst c63; rfl)
                    subst hn
                    have CC := Aside0.mk (show isSign b = true by subst c63; rfl)
                    clear c63 c9 c8 q8 q9 q63 hd
                    go_wp2
                    go_roundg (s.size - (pos + 1))
                    case measure => omega
                    case rel => exact ⟨pos + 1, by omega, ⟨fun j hj h => (Nat.lt_succ_iff_lt_or_eq.1 h).elim (HP.out j hj) (fun e => by subst e; rw [← HBY.out]; exact CC.out)⟩, HK1, hcl1, HB1⟩
                  · have c63a : (bt s pos == 63) = false := beq_eq_false_iff_ne.mpr (fun h => c63 (q63.mp h))
                    have c63b : (bt s pos != 63) = true := bne_iff_ne.mpr (fun h => c63 (q63.mp h))
                    have CC := Aside0.mk (show isSign b = false by simp [isSign, c8, c9, c63])
                    clear c8 c9 c63 q8 q9 q63 hd
                    go_wp2
                    go_ret
                    exact ⟨ret_bool (by rw [HX2.out, all_not _ _ k hlt (by rw [← HS.out, needB, all_not isSign _ pos hpl (by rw [← HBY.out]; exact CC.out)]; simp)]), HB1.out⟩
            · have hnext : ∀ ty, (Instr.next (.pointer (some ⟨K, 0, none⟩)) true ty).run Tryd.prog wr = _ := fun ty => Lib.run_next_end_at wr K s pos ty HI.out hp
              go_wp2
              go_roundg (l0_0.length - (k + 1))
              case measure => omega
              case rel =>
                refine ⟨k + 1, by omega, by go_num, ⟨fun j hj h => (Nat.lt_succ_iff_lt_or_eq.1 h).elim (HN.out j hj) (fun e => ?_)⟩, hcl, HB⟩
                subst e
                rw [← HS.out, needB, C1.out, all_of isSign _ (fun i hi => HP.out i hi (by have := HZ.out; omega))]
                simp
        · have c1b : ((s.size : Int) != (l0_0.length : Int)) = true := bne_iff_ne.mpr (by omega)
          have C1 := Aside0.mk c1
          clear c1
          go_wp2
          go_ret
          exact ⟨ret_bool (by rw [HX2.out, all_not _ _ k hlt (by rw [← HS.out]; simp [needB, C1.out])]), HB.out⟩
      · go_wp2
        go_ret
        exact ⟨ret_bool (by rw [HX2.out, all_of _ _ (fun j hj => HN.out j hj (by omega))]), HB.out⟩

/-! ### spec_OtherLamps: function 29 -/
-- by hand (wip/ext/OtherSpec.tpl)
def spec_OtherLamps.f (l0_0 : List ByteArray) : Option (List ByteArray × Bool) := if areLampsB l0_0 = true then some (l0_0.map otherS, true) else some ([], false)
theorem spec_OtherLamps.info : (Tryd.prog.info? 9).map (fun i => (i.zero, i.size, i.bytes)) = some (some (.string ⟨#[]⟩), 1, 16) := by kernel_rfl
set_option maxHeartbeats 2000000 in
set_option maxRecDepth 100000 in
theorem spec_OtherLamps.calls (A0_0 : Option Addr) (c0_0 : Nat) (l0_0 : List ByteArray) (r1 : List ByteArray) (r2 : Bool) (w : World) (hr0_0 : Kd.C Kd.string w A0_0 l0_0.length l0_0) (hc0_0 : l0_0.length ≤ c0_0) (h : spec_OtherLamps.f l0_0 = some (r1, r2)) :
    Calls Tryd.prog 29 #[.agg #[.slice A0_0 l0_0.length c0_0]] w fun e w' => ∃ v0_ : Value, e = .returned (.tuple #[.agg #[v0_], .bool r2]) ∧ Kd.R Kd.string 9 w' w.heap.size (fun _ => True) v0_ r1 ∧ Below w.heap.size w w' := by
  unfold spec_OtherLamps.f at h
  have hu := Tryd.underlying37
  have hus := Tryd.underlying9
  have HG := Aside0.mk (fun W (hb : Below w.heap.size w W) => spec_laGood.calls A0_0 c0_0 l0_0 (areLampsB l0_0) W (Kd.C_below hr0_0 hb) hc0_0 rfl)
  have HRR := Aside0.mk hr0_0
  obtain ⟨G, hG⟩ : ∃ G, G = areLampsB l0_0 := ⟨_, rfl⟩
  rw [← hG] at h HG
  have HB0 := Aside0.mk (show Below w.heap.size w ((w.alloc (.cells #[.slice A0_0 l0_0.length c0_0] 37)).alloc (.cells #[.slice none 0 0] 37)) from ((Below.refl _ w).alloc (Nat.le_refl _) _).alloc (by simp) _)
  have HCL0 := Aside0.mk (show ((w.alloc (.cells #[.slice A0_0 l0_0.length c0_0] 37)).alloc (.cells #[.slice none 0 0] 37)).cell? ⟨w.heap.size, 0, none⟩ = some (.slice A0_0 l0_0.length c0_0) from (World.cell?_alloc_past _ _ _ (by simp)).trans (by go_simp))
  have BKR0 := Aside0.mk (show ((w.alloc (.cells #[.slice A0_0 l0_0.length c0_0] 37)).alloc (.cells #[.slice none 0 0] 37)).heap[w.heap.size + 1]? = some (.cells #[.slice none 0 0] 37 (0, 0)) from by
    have h5 := (MapKept.heap_alloc (w.alloc (.cells #[.slice A0_0 l0_0.length c0_0] 37)) (.cells #[.slice none 0 0] 37)).1
    have h6 : (w.alloc (.cells #[.slice A0_0 l0_0.length c0_0] 37)).heap.size = w.heap.size + 1 := by simp
    rw [h6] at h5
    exact h5)
  clear hr0_0
  cases G with
  | false =>
    simp only [Bool.false_eq_true, if_false, Option.some.injEq, Prod.mk.injEq] at h
    obtain ⟨rfl, rfl⟩ := h
    clear hG
    go_enter Tryd.func29, Tryd.ntmps29
    go_wp2_with (go_at_call 62; refine (HG.out _ HB0.out).mono ?_; rintro e w1 ⟨rfl, hb⟩; have HB1 := Aside0.mk (below_step HB0.out hb); have BKR1 := Aside0.mk (blk_below BKR0.out hb); have hcR1 := (blk_cell BKR1.out 0).trans rfl; have hfR1 := blk_frozen BKR1.out 0; clear hb)
    refine bodyPost_ret (results_ct rfl _ _ (w.heap.size + 1) 37 #[.slice none 0 0] (0, 0) _ rfl (blk_put (cs := #[.slice none 0 0]) BKR1.out 0 _ rfl) Tryd.underlying37 rfl (by kernel_rfl)) rfl ?_
    exact ⟨_, rfl, Kd.R_nil _ _ _ _ _, below_setCell HB1.out (w.heap.size + 1) 0 _ (by omega)⟩
  | true =>
    simp only [if_true, Option.some.injEq, Prod.mk.injEq] at h
    obtain ⟨rfl, rfl⟩ := h
    obtain ⟨hl1, hl10, hall⟩ := lamps_facts hG.symm
    have HALL := Aside0.mk hall
    have HL10 := Aside0.mk hl10
    clear hG hall hl1 hl10
    go_enter Tryd.func29, Tryd.ntmps29
    go_wp2_with (go_at_call 62; refine (HG.out _ HB0.out).mono ?_; rintro e w1 ⟨rfl, hb⟩; have HB1 := Aside0.mk (below_step HB0.out hb); have BKR1 := Aside0.mk (blk_below BKR0.out hb); have hcl1 := (hb.cell (World.block_lt_of_cell? _ _ HCL0.out)).trans HCL0.out; have hcl2 : (w1.alloc (.cells #[.slice none 0 0] 37)).cell? ⟨w.heap.size, 0, none⟩ = some (.slice A0_0 l0_0.length c0_0) := (World.cell?_alloc_past _ _ _ (World.block_lt_of_cell? _ _ hcl1)).trans hcl1; clear hb)
    have BKR2 := Aside0.mk (blk_alloc BKR1.out (.cells #[.slice none 0 0] 37))
    have BKO2 := Aside0.mk (MapKept.heap_alloc w1 (.cells #[.slice none 0 0] 37)).1
    have HB2 := Aside0.mk (HB1.out.alloc (below_size HB1.out) (.cells #[.slice none 0 0] 37))
    have hRO := blk_lt BKR1.out
    clear hcl1 hcl2 BKR1 HB1 HG HB0 HCL0 BKR0
    obtain ⟨OB, hOB⟩ : ∃ OB, OB = w1.heap.size := ⟨_, rfl⟩
    rw [← hOB] at BKO2 hRO ⊢
    have HRO := Aside0.mk hRO
    clear hOB hRO
    generalize w1.alloc (.cells #[.slice none 0 0] 37) = W0 at BKR2 BKO2 HB2 ⊢
    go_loopg [16] l0_0.length (fun gg v17 w' => ∃ k : Nat, k + gg = l0_0.length ∧ v17 = .int .i64 k ∧ (∃ v, Aside0 (w'.heap[OB]? = some (.cells #[v] 37 (0, 0))) ∧ Aside0 (Kd.R Kd.string 9 w' w.heap.size (fun _ => True) v ((l0_0.take k).map otherS))) ∧ Aside0 (w'.heap[w.heap.size + 1]? = some (.cells #[.slice none 0 0] 37 (0, 0))) ∧ Aside0 (Below w.heap.size w w'))
    case atStart => exact ⟨0, by omega, rfl, ⟨.slice none 0 0, BKO2, ⟨Kd.R_nil _ _ _ _ _⟩⟩, BKR2, HB2⟩
    case round =>
      clear BKR2 BKO2 HB2
      obtain ⟨k, hks, rfl, ⟨v, BKO, HO⟩, BKR, HB⟩ := hrel
      obtain ⟨A, c, rfl⟩ := Kd.R_slice HO.out
      by_cases hp : k < l0_0.length
      · have hk9 : k ≤ 9 := by have := HL10.out; omega
        have HT := Aside0.mk (show (l0_0.take (k + 1)).map otherS = (l0_0.take k).map otherS ++ [otherS l0_0[k]] by rw [List.take_succ_eq_append_getElem hp, List.map_append]; rfl)
        have HLE := Aside0.mk (show ((l0_0.take k).map otherS).length = k by simp; omega)
        obtain ⟨T, hTT⟩ : ∃ T, T = (l0_0.take k).map otherS := ⟨_, rfl⟩
        rw [← hTT] at HO HT HLE BKO
        clear hTT
        obtain ⟨ad, rfl, hx0⟩ := Kd.at_string HRR.out (k : Int) (by omega) (by omega)
        simp only [Int.toNat_natCast] at hx0
        replace hx0 := (HB.out.cell (World.block_lt_of_cell? w _ hx0)).trans hx0
        have ex : rdOf ByteArray.empty l0_0 (k : Int) = l0_0[k] := by simp [rdOf, hp]
        rw [ex] at hx0
        clear ex
        have hnd := HALL.out l0_0[k] (List.getElem_mem hp)
        obtain ⟨nd, hndq⟩ : ∃ nd, nd = l0_0[k] := ⟨_, rfl⟩
        rw [← hndq] at hx0 hnd HT
        clear hndq
        have HND := Aside0.mk hnd
        have HZn := Aside0.mk (show nd.size = nd.data.toList.length from Lib.size_eq nd)
        clear hnd
        go_wp2
        have hi0 := World.iter_heap wr nd 0
        have hbb : Below wr.heap.size wr (wr.iter nd 0) := below_alloc (Below.refl _ _) _
        have HI2 := Aside0.mk hi0
        have HB2 := Aside0.mk (below_step HB.out hbb)
        have HO2 := Aside0.mk (Kd.R_below HO.out hbb)
        have BKO2 := Aside0.mk (blk_below BKO.out hbb)
        have BKR2 := Aside0.mk (blk_below BKR.out hbb)
        have HLT := Aside0.mk (blk_lt BKO.out)
        clear hbb hi0 HB HO BKO BKR hx0
        obtain ⟨K, hK⟩ : ∃ K, K = wr.heap.size := ⟨_, rfl⟩
        rw [← hK] at HI2 HLT ⊢
        generalize wr.iter nd 0 = W2 at HI2 HB2 HO2 BKO2 BKR2 ⊢
        clear hK
        go_loopg [7] nd.size (fun gg v7 w' => ∃ j : Nat, j + gg = nd.size ∧ v7 = .string ⟨((otherL nd.data.toList).take j).toArray⟩ ∧ Aside0 (w'.heap[K]? = some (.stringIter nd j)) ∧ Aside0 (Kd.R Kd.string 9 w' w.heap.size (fun _ => True) (.slice A T.length c) T) ∧ Aside0 (w'.heap[OB]? = some (.cells #[.slice A T.length c] 37 (0, 0))) ∧ Aside0 (w'.heap[w.heap.size + 1]? = some (.cells #[.slice none 0 0] 37 (0, 0))) ∧ Aside0 (Below w.heap.size w w'))
        case atStart => exact ⟨0, by omega, rfl, HI2, HO2, BKO2, BKR2, HB2⟩
        case round =>
          clear HI2 HO2 BKO2 BKR2 HB2
          obtain ⟨j, hjs, rfl, HI, HO, BKO, BKR, HB⟩ := hrel
          by_cases hq : j < nd.size
          · have hpl : j < nd.data.toList.length := by rw [← HZn.out]; exact hq
            have hj10 : j < 10 := by have := HND.out.1; have := HL10.out; omega
            have hbit : isSign nd.data.toList[j] = true := List.all_eq_true.1 HND.out.2 _ (List.getElem_mem hpl)
            have hnext : ∀ ty, (Instr.next (.pointer (some ⟨K, 0, none⟩)) true ty).run Tryd.prog wr = _ := fun ty => Lib.run_next_any_at wr K nd j ty HI.out hq
            rw [decode_sign nd j hq hpl hbit] at hnext
            have HI1 := Aside0.mk (Lib.iterAt_heap wr K nd j (j + 1) HI.out)
            have HB1 := Aside0.mk (Lib.below_iterAt HB.out (by have := HLT.out; have := HRO.out; omega) (k := K) nd (j + 1))
            have HO1 := Aside0.mk (R_iter (p' := j + 1) HO.out HI.out)
            have BKO1 := Aside0.mk ((Lib.iterAt_other wr K OB nd (j + 1) (by have := HLT.out; omega)).trans BKO.out)
            have BKR1 := Aside0.mk ((Lib.iterAt_other wr K (w.heap.size + 1) nd (j + 1) (by have := HLT.out; have := HRO.out; omega)).trans BKR.out)
            have eb := bt_nat nd j hpl
            have htl : j < (otherL nd.data.toList).length := by simpa [otherL] using hpl
            have htk : (otherL nd.data.toList).take (j + 1) = (otherL nd.data.toList).take j ++ [if nd.data.toList[j] = 63 then 63 else 97 - nd.data.toList[j]] := by
              rw [List.take_succ_eq_append_getElem htl]
              simp [otherL]
            have htz : ((otherL nd.data.toList).take j).length = j := by rw [List.length_take]; omega
            obtain ⟨b, hb⟩ : ∃ b, b = nd.data.toList[j] := ⟨_, rfl⟩
            rw [← hb] at hbit eb htk
            obtain ⟨U, hU⟩ : ∃ U, U = (otherL nd.data.toList).take j := ⟨_, rfl⟩
            rw [← hU] at htk htz ⊢
            have HTK := Aside0.mk htk
            have hts : (⟨U.toArray⟩ : ByteArray).size = j := by show U.toArray.size = j; simpa using htz
            clear HI HB HO BKO BKR hb hU htk htl htz
            generalize wr.iterAt K nd (j + 1) = W1 at hnext HI1 HB1 HO1 BKO1 BKR1
            generalize (Utf8.decode nd j).1 = rn at hnext
            have p6 : (0 ≤ (j : Int)) = True := eq_true (by omega)
            have q6 : ((j : Int) < (nd.size : Int)) = True := eq_true (by omega)
            have hx6 : ((nd[j]'hq).toNat : Int) = bt nd j := by have := bt_at nd (j : Int) (by simpa using hq); simpa using this
            have hbb : (b = 48 ∨ b = 49) ∨ b = 63 := by simpa [isSign] using hbit
            clear hbit
            have hlast : ∀ x : UInt8, x = (if b = 63 then 63 else 97 - b) → (⟨(U ++ [x]).toArray⟩ : ByteArray) = ⟨((otherL nd.data.toList).take (j + 1)).toArray⟩ := fun x hx => by rw [HTK.out, hx]
            have HLA := Aside0.mk hlast
            clear hlast
            rcases hbb with (rfl | rfl) | rfl
            · have eb8 : bt nd j = 48 := eb
              clear eb
              go_wp2
              go_roundg (nd.size - (j + 1))
              case measure => omega
              case rel => exact ⟨j + 1, by omega, congrArg Value.string ((str_snoc U 49).trans (HLA.out 49 (by decide))), HI1, HO1, BKO1, BKR1, HB1⟩
            · have eb8 : bt nd j = 49 := eb
              clear eb
              go_wp2
              go_roundg (nd.size - (j + 1))
              case measure => omega
              case rel => exact ⟨j + 1, by omega, congrArg Value.string ((str_snoc U 48).trans (HLA.out 48 (by decide))), HI1, HO1, BKO1, BKR1, HB1⟩
            · have eb8 : bt nd j = 63 := eb
              clear eb
              go_wp2
              go_roundg (nd.size - (j + 1))
              case measure => omega
              case rel => exact ⟨j + 1, by omega, congrArg Value.string ((str_snoc U 63).trans (HLA.out 63 (by decide))), HI1, HO1, BKO1, BKR1, HB1⟩
          · have hnext : ∀ ty, (Instr.next (.pointer (some ⟨K, 0, none⟩)) true ty).run Tryd.prog wr = _ := fun ty => Lib.run_next_end_at wr K nd j ty HI.out hq
            have hfull : (⟨((otherL nd.data.toList).take j).toArray⟩ : ByteArray) = otherS nd := by rw [List.take_of_length_le (by rw [otherL, List.length_map]; have := HZn.out; omega)]; rfl
            rw [hfull]
            have hcl4 := (blk_cell BKO.out 0).trans rfl
            go_wp2_with ((with_reducible refine gate_builtin (b := .append) (xs := #[.tmp 39, .tmp 41]) rfl ?_); at_builtin; refine Kd.R_append Kd.string (w0 := w) w.heap.size rfl (.tmp 39) (.tmp 41) 22 9 (.string ⟨#[]⟩) 16 rfl Tryd.underlying22 spec_OtherLamps.info rfl (by decide) (by omega) (.slice A T.length c) T (otherS nd) [.string (otherS nd)] (fun _ => True) (fun _ => False) rfl rfl rfl (fun _ hk => hk.elim) (fun _ _ => trivial) HO.out HB.out (below_size HB.out) (by have := HLE.out; omega) ?_; intro v2 w5 ho hb hg hat; obtain ⟨A2, c2, rfl⟩ := Kd.R_slice ho; have HO5 := Aside0.mk ho; have HB5 := Aside0.mk hb; have BKO5 := Aside0.mk (blk_grown BKO.out hg (Kd.R_ne HO.out BKO.out (by decide))); have BKR5 := Aside0.mk (blk_grown BKR.out hg (Kd.R_ne HO.out BKR.out (by decide))); have hcl5 := (blk_cell BKO5.out 0).trans rfl; have hfl5 := blk_frozen BKO5.out 0; clear ho hb hg hat)
            go_roundg (l0_0.length - (k + 1))
            case measure => omega
            case rel => exact ⟨k + 1, by omega, by go_num, ⟨_, ⟨blk_put (cs := #[.slice A T.length c]) BKO5.out 0 _ rfl⟩, ⟨by rw [HT.out]; have h9 := HO5.out; rw [List.length_append, List.length_singleton] at h9; exact Kd.R_set h9 BKO5.out (by decide) 0 _⟩⟩, ⟨blk_far (p := ⟨OB, 0, none⟩) BKR5.out (by have := HRO.out; simp; omega) _⟩, ⟨below_setCell HB5.out OB 0 _ (by have := HRO.out; omega)⟩⟩
      · have hkn : k = l0_0.length := by omega
        have e0 : (l0_0.take k).map otherS = l0_0.map otherS := by rw [List.take_of_length_le (by omega)]
        rw [e0] at HO BKO
        have HLE := Aside0.mk (show (l0_0.map otherS).length = l0_0.length by simp)
        obtain ⟨T, hTT⟩ : ∃ T, T = l0_0.map otherS := ⟨_, rfl⟩
        rw [← hTT] at HO BKO HLE
        have HTT := Aside0.mk hTT
        clear hTT e0
        have hcL := (blk_cell BKO.out 0).trans rfl
        have hcR := (blk_cell BKR.out 0).trans rfl
        have hfR := blk_frozen BKR.out 0
        go_wp2
        refine bodyPost_ret (results_ct rfl _ _ (w.heap.size + 1) 37 #[.slice A T.length c] (0, 0) _ rfl (blk_put (cs := #[.slice none 0 0]) BKR.out 0 _ rfl) Tryd.underlying37 rfl (by kernel_rfl)) rfl ?_
        exact ⟨_, rfl, HTT.out ▸ Kd.R_set HO.out BKR.out (by decide) 0 _, below_setCell HB.out (w.heap.size + 1) 0 _ (by omega)⟩

/-! ### impl_in: function 65 -/
def impl_in.f (a0 : Int) (a1 : Int) (a2 : Int) : Option (Bool) := if a0 ≥ a1 then (some (decide (a0 ≤ a2))) else (some false)
set_option maxHeartbeats 8000000 in
set_option maxRecDepth 100000 in
theorem impl_in.calls (a0 : Int) (a1 : Int) (a2 : Int) (r : Bool) (w : World) (h : impl_in.f a0 a1 a2 = some r) :
  Calls Tryd.prog 65 #[.int .i64 a0, .int .i64 a1, .int .i64 a2] w fun e w' => e = .returned (.bool r) ∧ Drawn0 w w' := by
 have H : (if a0 ≥ a1 then (some (decide (a0 ≤ a2))) else (some false)) = some r := h
 clear h
 by_cases c4 : a0 ≥ a1
 ·rw [if_pos c4] at H
  have c4b0 : decide (a1 ≤ a0) = true := decide_eq_true c4
  clear c4
  obtain rfl := Option.some.inj H
  go_enter Tryd.func65, Tryd.ntmps65
  go_wp2
  go_ret
  exact ⟨by first | rfl | (simp; done) | (simp [*]; done), by repeat (first | exact Drawn0.refl _ | apply Drawn0.step)⟩
 ·rw [if_neg c4] at H
  have c4b0 : decide (a1 ≤ a0) = false := decide_eq_false c4
  clear c4
  obtain rfl := Option.some.inj H
  go_enter Tryd.func65, Tryd.ntmps65
  go_wp2
  go_ret
  exact ⟨by first | rfl | (simp; done) | (simp [*]; done), by repeat (first | exact Drawn0.refl _ | apply Drawn0.step)⟩

/-! ### slices_ContainsFunc_string_string: function 103 -/
-- by hand (wip/ext/gen_string.tpl)
set_option maxHeartbeats 1000000 in
set_option maxRecDepth 100000 in
theorem slices_ContainsFunc_string_string.index (F : FuncId) (fn : Func) (hf : Tryd.prog.funcs[F]? = some fn ∧ (fn.name == "runtime.NumGoroutine") = false ∧ fn.body.isSome = true) (caps : Array Value) (p : ByteArray → Bool)
    (A : Option Addr) (c : Nat) (l : List ByteArray) (w : World) (hr : Kd.C Kd.string w A l.length l)
    (hp : ∀ (w1 : World) (x : ByteArray), x ∈ l → Below w.heap.size w w1 → Calls Tryd.prog F (#[.string x] ++ caps) w1 fun e w2 => e = .returned (.bool (p x)) ∧ Below w1.heap.size w1 w2) :
    Calls Tryd.prog 76 #[.slice A l.length c, .func (.func F) #[] caps] w fun e w' => e = .returned (.int .i64 (idxI p l)) ∧ Below w.heap.size w w' := by
  have hl := hr.2.1
  have HR := Aside0.mk hr
  have HF := Aside0.mk hf
  have HP := Aside0.mk hp
  clear hr hf hp
  go_enter Tryd.func76, Tryd.ntmps76
  go_wp2
  go_loopw [8] (fun v8 w' => ∃ k : Nat, k ≤ l.length ∧ v8 = .int .i64 k ∧ Aside0 (∀ j (hj : j < l.length), j < k → p l[j] = false) ∧ Aside0 (Below w.heap.size w w')) (fun v8 _ => l.length - (intOf v8).toNat)
  case atStart => exact ⟨0, Nat.zero_le _, rfl, ⟨fun j _ h => absurd h (by omega)⟩, ⟨Below.refl _ _⟩⟩
  case round =>
    obtain ⟨k, hk, rfl, HN, HB⟩ := hrel
    by_cases hlt : k < l.length
    · obtain ⟨ad, rfl, hx0⟩ := Kd.at_string HR.out (k : Int) (by omega) (by omega)
      simp only [Int.toNat_natCast] at hx0
      replace hx0 := (HB.out.cell (World.block_lt_of_cell? w _ hx0)).trans hx0
      have ex : rdOf ByteArray.empty l (k : Int) = l[k] := by simp [rdOf, hlt]
      rw [ex] at hx0
      clear ex
      go_wp2_with ((with_reducible refine gate_dst (N := 16) rfl ?_); go_must (refine goesC_ (some 16) rfl rfl caps HF.out #[.string l[k]] rfl rfl (by (try simp only [List.map_toArray, List.map_cons, List.map_nil]); first | done | rfl) ?_; refine (HP.out _ l[k] (List.getElem_mem hlt) HB.out).mono ?_; rintro e w2 ⟨rfl, hb⟩; refine ⟨_, rfl, ?_⟩; have HB2 := Aside0.mk (below_step HB.out hb); clear hb))
      · have hpk : p l[k] = true := by assumption
        go_ret
        exact ⟨ret_int (idxI_hit p l k hlt hpk fun j hj => HN.out j (by omega) hj).symm, HB2.out⟩
      · have hpk : p l[k] = false := by assumption
        go_roundw
        case rel =>
          refine ⟨k + 1, by omega, by go_num, ⟨fun j hj hjk => ?_⟩, HB2⟩
          rcases Nat.lt_or_ge j k with h | h
          · exact HN.out j hj h
          · obtain rfl : j = k := by omega
            exact hpk
        case measure => simp [intOf]; omega
    · go_wp2
      go_ret
      exact ⟨ret_int (idxI_miss p l fun j hj => HN.out j hj (by omega)).symm, HB.out⟩
set_option maxHeartbeats 1000000 in
set_option maxRecDepth 100000 in
theorem slices_ContainsFunc_string_string.any (F : FuncId) (fn : Func) (hf : Tryd.prog.funcs[F]? = some fn ∧ (fn.name == "runtime.NumGoroutine") = false ∧ fn.body.isSome = true) (caps : Array Value) (p : ByteArray → Bool)
    (A : Option Addr) (c : Nat) (l : List ByteArray) (w : World) (hr : Kd.C Kd.string w A l.length l)
    (hp : ∀ (w1 : World) (x : ByteArray), x ∈ l → Below w.heap.size w w1 → Calls Tryd.prog F (#[.string x] ++ caps) w1 fun e w2 => e = .returned (.bool (p x)) ∧ Below w1.heap.size w1 w2) :
    Calls Tryd.prog 103 #[.slice A l.length c, .func (.func F) #[] caps] w fun e w' => e = .returned (.bool (l.any p)) ∧ Below w.heap.size w w' := by
  have HC := Aside0.mk (slices_ContainsFunc_string_string.index F fn hf caps p A c l w hr hp)
  have HG := Aside0.mk (idxI_ge p l)
  clear hf hp hr
  go_enter Tryd.func103, Tryd.ntmps103
  go_wp2_with (go_at_call 76; refine HC.out.mono ?_; rintro e w' ⟨rfl, hb⟩; have HB := Aside0.mk hb; clear hb)
  go_ret
  exact ⟨ret_bool HG.out, HB.out⟩

/-! ### strings_Trim: function 113 -/
-- by hand (wip/ext/Shelf2.tpl)
/-- For a cutset of ASCII signs: what is left of a text behind both ends are trimmed. -/
def strings_Trim.f (a0 a1 : ByteArray) : Option ByteArray := if a0.size ≤ 9223372036854775807 ∧ a1.size < 4294967281 ∧ (a1.data.toList.all fun b => b.toNat < 128) = true then some ⟨(Lib.trimS a0.data.toList a1.data.toList).toArray⟩ else none
theorem strings_Trim.calls (a0 a1 : ByteArray) (r : ByteArray) (w : World) (h : strings_Trim.f a0 a1 = some r) :
    Calls Tryd.prog 113 #[.string a0, .string a1] w fun e w' => e = .returned (.string r) ∧ Below w.heap.size w w' := by
  unfold strings_Trim.f at h
  split at h
  · rename_i hc
    obtain rfl := Option.some.inj h
    refine Tryd.strings_Trim a0 a1 w hc.1 hc.2.1 (fun j b hb => ?_)
    have := List.all_eq_true.1 hc.2.2 b (List.mem_of_getElem? hb)
    simpa using this
  · cases h

/-! ### impl_isNeed: function 107 -/
def impl_isNeed.f (a0 : ByteArray) (a1 : Int) : Option (Bool) := if (a0.size : Int) = a1 then ((strings_Trim.f a0 (⟨#[48, 49, 63]⟩ : ByteArray)).bind fun t128 => (some (t128.toList == ([] : List UInt8)))) else (some false)
set_option maxHeartbeats 8000000 in
set_option maxRecDepth 100000 in
theorem impl_isNeed.calls (a0 : ByteArray) (a1 : Int) (r : Bool) (w : World) (h : impl_isNeed.f a0 a1 = some r) :
  Calls Tryd.prog 107 #[.string a0, .int .i64 a1] w fun e w' => e = .returned (.bool r) ∧ Below w.heap.size w w' := by
 have HB := Aside0.mk (Below.refl w.heap.size w)
 have H : (if (a0.size : Int) = a1 then ((strings_Trim.f a0 (⟨#[48, 49, 63]⟩ : ByteArray)).bind fun t128 => (some (t128.toList == ([] : List UInt8)))) else (some false)) = some r := h
 clear h
 by_cases c3 : (a0.size : Int) = a1
 ·rw [if_pos c3] at H
  have c3b0 : ((a0.size : Int) == a1) = true := beq_iff_eq.mpr c3
  have c3b1 : ((a0.size : Int) != a1) = false := bne_eq_false_iff_eq.mpr c3
  clear c3
  replace H := Option.bind_eq_some_iff.mp H
  obtain ⟨t128, A40, H⟩ := H
  replace H : (some (t128.toList == ([] : List UInt8))) = some r := H
  have A4 := Aside0.mk A40
  clear A40
  obtain rfl := Option.some.inj H
  go_enter Tryd.func107, Tryd.ntmps107
  go_wp2_with (first | (go_at_call 113; (with_reducible refine (strings_Trim.calls a0 (⟨#[48, 49, 63]⟩ : ByteArray) t128 _ A4.out).mono ?_); rintro e w5 ⟨rfl, hb⟩; have n0_ := Aside0.mk (below_step (by repeat (first | (with_reducible first | exact HB.out | apply below_alloc | apply pw_below_drewN | apply below_drew1) | exact HB.out)) hb); clear HB; have HB := n0_; clear n0_; (try clear hb); (try clear hb2); (try clear hk); (try clear hi)))
  go_ret
  exact ⟨by first | rfl | (simp [errW_none, errW_some] <;> rfl) | (simp [*, errW_none, errW_some] <;> rfl), by repeat (first | (with_reducible first | exact HB.out | apply below_alloc | apply pw_below_drewN | apply below_drew1) | exact HB.out)⟩
 ·rw [if_neg c3] at H
  have c3b0 : ((a0.size : Int) == a1) = false := beq_eq_false_iff_ne.mpr c3
  have c3b1 : ((a0.size : Int) != a1) = true := bne_iff_ne.mpr c3
  obtain rfl := Option.some.inj H
  go_enter Tryd.func107, Tryd.ntmps107
  go_wp2
  go_ret
  exact ⟨by first | rfl | (simp [errW_none, errW_some] <;> rfl) | (simp [*, errW_none, errW_some] <;> rfl), by repeat (first | (with_reducible first | exact HB.out | apply below_alloc | apply pw_below_drewN | apply below_drew1) | exact HB.out)⟩

/-! ### impl_AreLamps: function 64 -/
-- by hand (wip/ext/AreLamps.tpl)
theorem isNeed_eq (s : ByteArray) (n : Nat) (hn : n ≤ 9223372036854775807) : impl_isNeed.f s n = some (needB n s) := by
  simp only [impl_isNeed.f, needB]
  by_cases h : s.size = n
  · subst h
    have ht : strings_Trim.f s (⟨#[48, 49, 63]⟩ : ByteArray) = some ⟨(Lib.trimS s.data.toList [48, 49, 63]).toArray⟩ := by
      unfold strings_Trim.f
      rw [if_pos ⟨hn, by decide, by decide⟩]
    rw [if_pos rfl, ht]
    simp only [Option.bind_some, trimS_beq, isSign_contains]
    simp
  · have h' : ¬ (s.size : Int) = n := by omega
    simp [h, h']
theorem impl_AreLamps.f1 : Tryd.prog.funcs[106]? = some Tryd.f106 ∧ (Tryd.f106.name == "runtime.NumGoroutine") = false ∧ Tryd.f106.body.isSome = true := ⟨Tryd.func106, by kernel_rfl, by kernel_rfl⟩
set_option maxHeartbeats 400000 in
theorem impl_AreLamps.c1 (g : Nat) (A : Option Addr) (n c : Nat) (s : ByteArray) (w : World) (hn : n ≤ 9223372036854775807) (hg : w.cell? ⟨g, 0, none⟩ = some (.slice A n c)) :
    Calls Tryd.prog 106 #[.string s, .pointer (some ⟨g, 0, none⟩)] w fun e w' => e = .returned (.bool (!needB n s)) ∧ Below w.heap.size w w' := by
  have HC := Aside0.mk (fun W => impl_isNeed.calls s n _ W (isNeed_eq s n hn))
  have hu := Tryd.underlying37
  go_enter Tryd.func106, Tryd.ntmps106
  go_wp2_with (go_at_call 107; refine (HC.out _).mono ?_; rintro e w' ⟨rfl, hb⟩; have HB := Aside0.mk hb; clear hb)
  go_ret
  exact ⟨rfl, HB.out⟩
def impl_AreLamps.f (l0_0 : List ByteArray) : Option Bool := some (areLampsB l0_0)
set_option maxHeartbeats 1000000 in
set_option maxRecDepth 100000 in
theorem impl_AreLamps.calls (A0_0 : Option Addr) (c0_0 : Nat) (l0_0 : List ByteArray) (r : Bool) (w : World) (hr0_0 : Kd.C Kd.string w A0_0 l0_0.length l0_0) (hc0_0 : l0_0.length ≤ c0_0) (h : impl_AreLamps.f l0_0 = some r) :
    Calls Tryd.prog 64 #[.agg #[.slice A0_0 l0_0.length c0_0]] w fun e w' => e = .returned (.bool r) ∧ Below w.heap.size w w' := by
  obtain rfl := Option.some.inj h
  clear h
  have hl := hr0_0.2.1
  have HC := Aside0.mk (fun (W : World) (hb : Below w.heap.size w W) (hg : W.cell? ⟨w.heap.size, 0, none⟩ = some (.slice A0_0 l0_0.length c0_0)) =>
    slices_ContainsFunc_string_string.any 106 Tryd.f106 impl_AreLamps.f1 #[.pointer (some ⟨w.heap.size, 0, none⟩)] (fun s => !needB l0_0.length s) A0_0 c0_0 l0_0 W (Kd.C_below hr0_0 hb)
      (fun w1 x _ hb1 => impl_AreLamps.c1 w.heap.size A0_0 l0_0.length c0_0 x w1 hl ((hb1.cell (World.block_lt_of_cell? W _ hg)).trans hg)))
  have HI := Aside0.mk (fun w1 => impl_in.calls l0_0.length 1 10 _ w1 (inB_ite l0_0.length 1 10))
  have hmf : ∀ (fn : Fn) (first cap : Array Value) (w : World), (Instr.makeFunc fn first cap).run Tryd.prog w = .ok (.func fn first cap) w := fun _ _ _ _ => rfl
  have hu := Tryd.underlying37
  clear hr0_0
  obtain ⟨R, hR⟩ : ∃ R, R = areLampsB l0_0 := ⟨_, rfl⟩
  rw [← hR]
  unfold areLampsB at hR
  have hall : l0_0.all (needB l0_0.length) = !(l0_0.any fun s => !needB l0_0.length s) := by simp [List.all_eq_not_any_not]
  rw [hall] at hR
  clear hall
  have HX := Aside0.mk hR
  clear hR
  go_enter Tryd.func64, Tryd.ntmps64
  go_wp2_with (first
    | (go_at_call 65; refine (HI.out _).mono ?_; rintro e w' ⟨rfl, ⟨n, rfl⟩⟩)
    | (go_at_call 103; refine (HC.out _ (pw_below_drewN (below_alloc (Below.refl _ _) _) _) (by go_simp)).mono ?_; rintro e w' ⟨rfl, hb⟩; have HB := Aside0.mk hb; clear hb))
  all_goals go_ret
  · have h1 : inB l0_0.length 1 10 = true := by assumption
    exact ⟨ret_bool (by rw [HX.out, h1]; simp), below_step (pw_below_drewN (below_alloc (Below.refl _ _) _) _) HB.out⟩
  · have h1 : ¬ inB l0_0.length 1 10 = true := by assumption
    exact ⟨ret_bool (by rw [HX.out]; simp [h1]), pw_below_drewN (below_alloc (Below.refl _ _) _) _⟩

/-! ### impl_OtherLamps: function 30 -/
-- by hand (wip/ext/OtherImpl.tpl)
def impl_OtherLamps.f (l0_0 : List ByteArray) : Option (List ByteArray × Bool) := if areLampsB l0_0 = true then some (l0_0.map otherS, true) else some ([], false)
theorem impl_OtherLamps.info : (Tryd.prog.info? 9).map (fun i => (i.zero, i.size, i.bytes)) = some (some (.string ⟨#[]⟩), 1, 16) := by kernel_rfl
set_option maxHeartbeats 2000000 in
set_option maxRecDepth 100000 in
theorem impl_OtherLamps.calls (A0_0 : Option Addr) (c0_0 : Nat) (l0_0 : List ByteArray) (r1 : List ByteArray) (r2 : Bool) (w : World) (hr0_0 : Kd.C Kd.string w A0_0 l0_0.length l0_0) (hc0_0 : l0_0.length ≤ c0_0) (h : impl_OtherLamps.f l0_0 = some (r1, r2)) :
    Calls Tryd.prog 30 #[.agg #[.slice A0_0 l0_0.length c0_0]] w fun e w' => ∃ v0_ : Value, e = .returned (.tuple #[.agg #[v0_], .bool r2]) ∧ Kd.R Kd.string 9 w' w.heap.size (fun _ => True) v0_ r1 ∧ Below w.heap.size w w' := by
  unfold impl_OtherLamps.f at h
  have hu := Tryd.underlying37
  have hus := Tryd.underlying9
  have HG := Aside0.mk (fun W (hb : Below w.heap.size w W) => impl_AreLamps.calls A0_0 c0_0 l0_0 (areLampsB l0_0) W (Kd.C_below hr0_0 hb) hc0_0 rfl)
  have HRR := Aside0.mk hr0_0
  obtain ⟨G, hG⟩ : ∃ G, G = areLampsB l0_0 := ⟨_, rfl⟩
  rw [← hG] at h HG
  have HB0 := Aside0.mk (show Below w.heap.size w ((w.alloc (.cells #[.slice A0_0 l0_0.length c0_0] 37)).alloc (.cells #[.slice none 0 0] 37)) from ((Below.refl _ w).alloc (Nat.le_refl _) _).alloc (by simp) _)
  have HCL0 := Aside0.mk (show ((w.alloc (.cells #[.slice A0_0 l0_0.length c0_0] 37)).alloc (.cells #[.slice none 0 0] 37)).cell? ⟨w.heap.size, 0, none⟩ = some (.slice A0_0 l0_0.length c0_0) from (World.cell?_alloc_past _ _ _ (by simp)).trans (by go_simp))
  have BKR0 := Aside0.mk (show ((w.alloc (.cells #[.slice A0_0 l0_0.length c0_0] 37)).alloc (.cells #[.slice none 0 0] 37)).heap[w.heap.size + 1]? = some (.cells #[.slice none 0 0] 37 (0, 0)) from by
    have h5 := (MapKept.heap_alloc (w.alloc (.cells #[.slice A0_0 l0_0.length c0_0] 37)) (.cells #[.slice none 0 0] 37)).1
    have h6 : (w.alloc (.cells #[.slice A0_0 l0_0.length c0_0] 37)).heap.size = w.heap.size + 1 := by simp
    rw [h6] at h5
    exact h5)
  clear hr0_0
  cases G with
  | false =>
    simp only [Bool.false_eq_true, if_false, Option.some.injEq, Prod.mk.injEq] at h
    obtain ⟨rfl, rfl⟩ := h
    clear hG
    go_enter Tryd.func30, Tryd.ntmps30
    go_wp2_with (go_at_call 64; refine (HG.out _ HB0.out).mono ?_; rintro e w1 ⟨rfl, hb⟩; have HB1 := Aside0.mk (below_step HB0.out hb); have BKR1 := Aside0.mk (blk_below BKR0.out hb); have hcR1 := (blk_cell BKR1.out 0).trans rfl; have hfR1 := blk_frozen BKR1.out 0; clear hb)
    refine bodyPost_ret (results_ct rfl _ _ (w.heap.size + 1) 37 #[.slice none 0 0] (0, 0) _ rfl (blk_put (cs := #[.slice none 0 0]) BKR1.out 0 _ rfl) Tryd.underlying37 rfl (by kernel_rfl)) rfl ?_
    exact ⟨_, rfl, Kd.R_nil _ _ _ _ _, below_setCell HB1.out (w.heap.size + 1) 0 _ (by omega)⟩
  | true =>
    simp only [if_true, Option.some.injEq, Prod.mk.injEq] at h
    obtain ⟨rfl, rfl⟩ := h
    obtain ⟨hl1, hl10, hall⟩ := lamps_facts hG.symm
    have HALL := Aside0.mk hall
    have HL10 := Aside0.mk hl10
    have hcv : ∀ (wx : World) (s : ByteArray), (convert 9 82 (.string s)).run Tryd.prog wx = .ok (.slice (some ⟨wx.heap.size, 0, none⟩) s.size (grownCap wx s.size 0 5)) (Lib.bytesWorld wx 5 s) := fun wx s => Lib.run_convert_string_bytes wx 9 82 5 s Tryd.underlying9 Tryd.underlying82 Tryd.underlying5
    clear hG hall hl1 hl10
    go_enter Tryd.func30, Tryd.ntmps30
    go_wp2_with (go_at_call 64; refine (HG.out _ HB0.out).mono ?_; rintro e w1 ⟨rfl, hb⟩; have HB1 := Aside0.mk (below_step HB0.out hb); have BKR1 := Aside0.mk (blk_below BKR0.out hb); have hcl1 := (hb.cell (World.block_lt_of_cell? _ _ HCL0.out)).trans HCL0.out; have hcl2 : (w1.alloc (.cells #[.slice none 0 0] 37)).cell? ⟨w.heap.size, 0, none⟩ = some (.slice A0_0 l0_0.length c0_0) := (World.cell?_alloc_past _ _ _ (World.block_lt_of_cell? _ _ hcl1)).trans hcl1; clear hb)
    have BKR2 := Aside0.mk (blk_alloc BKR1.out (.cells #[.slice none 0 0] 37))
    have BKO2 := Aside0.mk (MapKept.heap_alloc w1 (.cells #[.slice none 0 0] 37)).1
    have HB2 := Aside0.mk (HB1.out.alloc (below_size HB1.out) (.cells #[.slice none 0 0] 37))
    have hRO := blk_lt BKR1.out
    clear hcl1 hcl2 BKR1 HB1 HG HB0 HCL0 BKR0
    obtain ⟨OB, hOB⟩ : ∃ OB, OB = w1.heap.size := ⟨_, rfl⟩
    rw [← hOB] at BKO2 hRO ⊢
    have HRO := Aside0.mk hRO
    clear hOB hRO
    generalize w1.alloc (.cells #[.slice none 0 0] 37) = W0 at BKR2 BKO2 HB2 ⊢
    go_loopg [17] l0_0.length (fun gg v17 w' => ∃ k : Nat, k + gg = l0_0.length ∧ v17 = .int .i64 k ∧ (∃ v, Aside0 (w'.heap[OB]? = some (.cells #[v] 37 (0, 0))) ∧ Aside0 (Kd.R Kd.string 9 w' w.heap.size (fun _ => True) v ((l0_0.take k).map otherS))) ∧ Aside0 (w'.heap[w.heap.size + 1]? = some (.cells #[.slice none 0 0] 37 (0, 0))) ∧ Aside0 (Below w.heap.size w w'))
    case atStart => exact ⟨0, by omega, rfl, ⟨.slice none 0 0, BKO2, ⟨Kd.R_nil _ _ _ _ _⟩⟩, BKR2, HB2⟩
    case round =>
      clear BKR2 BKO2 HB2
      obtain ⟨k, hks, rfl, ⟨v, BKO, HO⟩, BKR, HB⟩ := hrel
      obtain ⟨A, c, rfl⟩ := Kd.R_slice HO.out
      by_cases hp : k < l0_0.length
      · have hk9 : k ≤ 9 := by have := HL10.out; omega
        have HT := Aside0.mk (show (l0_0.take (k + 1)).map otherS = (l0_0.take k).map otherS ++ [otherS l0_0[k]] by rw [List.take_succ_eq_append_getElem hp, List.map_append]; rfl)
        have HLE := Aside0.mk (show ((l0_0.take k).map otherS).length = k by simp; omega)
        obtain ⟨T, hTT⟩ : ∃ T, T = (l0_0.take k).map otherS := ⟨_, rfl⟩
        rw [← hTT] at HO HT HLE BKO
        clear hTT
        obtain ⟨ad, rfl, hx0⟩ := Kd.at_string HRR.out (k : Int) (by omega) (by omega)
        simp only [Int.toNat_natCast] at hx0
        replace hx0 := (HB.out.cell (World.block_lt_of_cell? w _ hx0)).trans hx0
        have ex : rdOf ByteArray.empty l0_0 (k : Int) = l0_0[k] := by simp [rdOf, hp]
        rw [ex] at hx0
        clear ex
        have hnd := HALL.out l0_0[k] (List.getElem_mem hp)
        obtain ⟨nd, hndq⟩ : ∃ nd, nd = l0_0[k] := ⟨_, rfl⟩
        rw [← hndq] at hx0 hnd HT
        clear hndq
        have HND := Aside0.mk hnd
        have HZn := Aside0.mk (show nd.size = nd.data.toList.length from Lib.size_eq nd)
        clear hnd
        go_wp2
        have hbb := below_bytes (Below.refl wr.heap.size wr) (Nat.le_refl _) 5 nd
        have HBY2 := Aside0.mk (bytesAt_made wr 5 nd)
        have HB2 := Aside0.mk (below_step HB.out hbb)
        have HO2 := Aside0.mk (Kd.R_below HO.out hbb)
        have BKO2 := Aside0.mk (blk_below BKO.out hbb)
        have BKR2 := Aside0.mk (blk_below BKR.out hbb)
        have HLT := Aside0.mk (blk_lt BKO.out)
        clear hbb HB HO BKO BKR hx0
        obtain ⟨m, hm⟩ : ∃ m, m = (Lib.bytesCells wr 5 nd).size := ⟨_, rfl⟩
        rw [← hm] at HBY2
        clear hm
        obtain ⟨K, hK⟩ : ∃ K, K = wr.heap.size := ⟨_, rfl⟩
        rw [← hK] at HBY2 HLT ⊢
        generalize grownCap wr nd.size 0 5 = cp
        generalize Lib.bytesWorld wr 5 nd = W2 at HBY2 HB2 HO2 BKO2 BKR2 ⊢
        clear hK
        go_loopg [25] nd.size (fun gg v25 w' => ∃ j : Nat, j + gg = nd.size ∧ v25 = .int .i64 j ∧ Aside0 (bytesAt w' K m 5 nd.size (fun i => if i < j then (otherL nd.data.toList).getD i 0 else nd.data.toList.getD i 0)) ∧ Aside0 (Kd.R Kd.string 9 w' w.heap.size (fun _ => True) (.slice A T.length c) T) ∧ Aside0 (w'.heap[OB]? = some (.cells #[.slice A T.length c] 37 (0, 0))) ∧ Aside0 (w'.heap[w.heap.size + 1]? = some (.cells #[.slice none 0 0] 37 (0, 0))) ∧ Aside0 (Below w.heap.size w w'))
        case atStart => exact ⟨0, by omega, rfl, ⟨bytesAt_congr HBY2.out (fun j hj => by simp)⟩, HO2, BKO2, BKR2, HB2⟩
        case round =>
          clear HBY2 HO2 BKO2 BKR2 HB2
          obtain ⟨j, hjs, rfl, HBY, HO, BKO, BKR, HB⟩ := hrel
          by_cases hq : j < nd.size
          · have hpl : j < nd.data.toList.length := by rw [← HZn.out]; exact hq
            have hj10 : j < 10 := by have := HND.out.1; have := HL10.out; omega
            have hce := bytesAt_cell HBY.out j hq
            have hfz := bytesAt_frozen HBY.out j hq
            have eg : nd.data.toList.getD j 0 = nd.data.toList[j] := by simp [List.getD, List.getElem?_eq_getElem hpl]
            have eo : (otherL nd.data.toList).getD j 0 = if nd.data.toList[j] = 63 then 63 else 97 - nd.data.toList[j] := by
              have h1 : j < (otherL nd.data.toList).length := by simpa [otherL] using hpl
              simp only [List.getD, List.getElem?_eq_getElem h1, Option.getD_some]
              simp [otherL]
            simp only [Nat.lt_irrefl, if_false, eg] at hce
            obtain ⟨b, hb⟩ : ∃ b, b = nd.data.toList[j] := ⟨_, rfl⟩
            rw [← hb] at hce eo eg
            have q63 := byte_toInt b 63 (by omega)
            have HEO := Aside0.mk eo
            have HEG := Aside0.mk eg
            clear eo hb eg
            by_cases c63 : b = 63
            · have c63a : ((b.toNat : Int) == 63) = true := beq_iff_eq.mpr (q63.mpr c63)
              have c63b : ((b.toNat : Int) != 63) = false := bne_eq_false_iff_eq.mpr (q63.mpr c63)
              have CC := Aside0.mk c63
              clear c63 q63
              go_wp2
              go_roundg (nd.size - (j + 1))
              case measure => omega
              case rel =>
                refine ⟨j + 1, by omega, by go_num, ⟨bytesAt_congr HBY.out (fun i hi => ?_)⟩, HO, BKO, BKR, HB⟩
                by_cases e : i = j
                · subst e
                  rw [if_pos (by omega), if_neg (by omega), HEO.out, if_pos CC.out, HEG.out, CC.out]
                · by_cases e2 : i < j
                  · rw [if_pos (by omega), if_pos e2]
                  · rw [if_neg (by omega), if_neg e2]
            · have c63a : ((b.toNat : Int) == 63) = false := beq_eq_false_iff_ne.mpr (fun h => c63 (q63.mp h))
              have c63b : ((b.toNat : Int) != 63) = true := bne_iff_ne.mpr (fun h => c63 (q63.mp h))
              have CC := Aside0.mk c63
              clear c63 q63
              have p6 : (0 ≤ (j : Int)) = True := eq_true (by omega)
              have q6 : ((j : Int) < (nd.size : Int)) = True := eq_true (by omega)
              go_wp2
              have hsub : ((97 : Int) - (b.toNat : Int)) % 256 = ((97 - b : UInt8).toNat : Int) := by
                rw [UInt8.toNat_sub]
                have := b.toNat_lt
                have e97 : (97 : UInt8).toNat = 97 := rfl
                rw [e97]
                omega
              rw [hsub]
              go_roundg (nd.size - (j + 1))
              case measure => omega
              case rel =>
                refine ⟨j + 1, by omega, by go_num, ⟨bytesAt_congr (bytesAt_set HBY.out j (97 - b)) (fun i hi => ?_)⟩, ⟨R_bytes HO.out HBY.out⟩, ⟨blk_far (p := ⟨K, j, none⟩) BKO.out (by have := HLT.out; simp; omega) _⟩, ⟨blk_far (p := ⟨K, j, none⟩) BKR.out (by have := HLT.out; have := HRO.out; simp; omega) _⟩, ⟨below_setCell HB.out K j _ (by have := HLT.out; have := HRO.out; omega)⟩⟩
                by_cases e : i = j
                · subst e
                  rw [if_pos (by omega), if_pos rfl, HEO.out, if_neg CC.out]
                · rw [if_neg e]
                  by_cases e2 : i < j
                  · rw [if_pos (by omega), if_pos e2]
                  · rw [if_neg (by omega), if_neg e2]
          · have hts : (otherL nd.data.toList).length = nd.size := by rw [otherL, List.length_map]; exact HZn.out.symm
            have hcs := bytesAt_string (P := Tryd.prog) (src := 82) (dst := 9) HBY.out Tryd.underlying82 Tryd.underlying5 Tryd.underlying9 cp (otherL nd.data.toList) hts (fun i hi => by
              rw [if_pos (by omega)]
              simp [List.getD, List.getElem?_eq_getElem hi])
            have hcs' : (convert 82 9 (.slice (some ⟨K, 0, none⟩) nd.size cp)).run Tryd.prog wr = .ok (.string (otherS nd)) wr := hcs
            have hcl4 := (blk_cell BKO.out 0).trans rfl
            clear hcs hcv
            go_wp2_with ((with_reducible refine gate_builtin (b := .append) (xs := #[.tmp 39, .tmp 42]) rfl ?_); at_builtin; refine Kd.R_append Kd.string (w0 := w) w.heap.size rfl (.tmp 39) (.tmp 42) 22 9 (.string ⟨#[]⟩) 16 rfl Tryd.underlying22 impl_OtherLamps.info rfl (by decide) (by omega) (.slice A T.length c) T (otherS nd) [.string (otherS nd)] (fun _ => True) (fun _ => False) rfl rfl rfl (fun _ hk => hk.elim) (fun _ _ => trivial) HO.out HB.out (below_size HB.out) (by have := HLE.out; omega) ?_; intro v2 w5 ho hb hg hat; obtain ⟨A2, c2, rfl⟩ := Kd.R_slice ho; have HO5 := Aside0.mk ho; have HB5 := Aside0.mk hb; have BKO5 := Aside0.mk (blk_grown BKO.out hg (Kd.R_ne HO.out BKO.out (by decide))); have BKR5 := Aside0.mk (blk_grown BKR.out hg (Kd.R_ne HO.out BKR.out (by decide))); have hcl5 := (blk_cell BKO5.out 0).trans rfl; have hfl5 := blk_frozen BKO5.out 0; clear ho hb hg hat)
            go_roundg (l0_0.length - (k + 1))
            case measure => omega
            case rel => exact ⟨k + 1, by omega, by go_num, ⟨_, ⟨blk_put (cs := #[.slice A T.length c]) BKO5.out 0 _ rfl⟩, ⟨by rw [HT.out]; have h9 := HO5.out; rw [List.length_append, List.length_singleton] at h9; exact Kd.R_set h9 BKO5.out (by decide) 0 _⟩⟩, ⟨blk_far (p := ⟨OB, 0, none⟩) BKR5.out (by have := HRO.out; simp; omega) _⟩, ⟨below_setCell HB5.out OB 0 _ (by have := HRO.out; omega)⟩⟩
      · have hkn : k = l0_0.length := by omega
        have e0 : (l0_0.take k).map otherS = l0_0.map otherS := by rw [List.take_of_length_le (by omega)]
        rw [e0] at HO BKO
        have HLE := Aside0.mk (show (l0_0.map otherS).length = l0_0.length by simp)
        obtain ⟨T, hTT⟩ : ∃ T, T = l0_0.map otherS := ⟨_, rfl⟩
        rw [← hTT] at HO BKO HLE
        have HTT := Aside0.mk hTT
        clear hTT e0 hcv
        have hcL := (blk_cell BKO.out 0).trans rfl
        have hcR := (blk_cell BKR.out 0).trans rfl
        have hfR := blk_frozen BKR.out 0
        go_wp2
        refine bodyPost_ret (results_ct rfl _ _ (w.heap.size + 1) 37 #[.slice A T.length c] (0, 0) _ rfl (blk_put (cs := #[.slice none 0 0]) BKR.out 0 _ rfl) Tryd.underlying37 rfl (by kernel_rfl)) rfl ?_
        exact ⟨_, rfl, HTT.out ▸ Kd.R_set HO.out BKR.out (by decide) 0 _, below_setCell HB.out (w.heap.size + 1) 0 _ (by omega)⟩

end Go.Proofs.YtepaleeepbjkbaaDoor.POtherLamps
