-- PRINTED by drive.py (a program of this session's, over the kit's print.py; wip/tools/drive.py). Lean checks it.
import Derived.Test.YtepaleeepbjkbaaDoorPStillStatesx0
import Derived.Test.YtepaleeepbjkbaaDoorPStillStatesx1
namespace Go.Proofs.YtepaleeepbjkbaaDoor.PStillStates
open Go.RowKit Go.Proofs.YtepaleeepbjkbaaDoorW.PrintWords Go.Proofs.YtepaleeepbjkbaaDoorW.PrintLast Go.Proofs.YtepaleeepbjkbaaDoorW.PrintMore
attribute [local go_sem] max2_int min2_int max_two min_two max_three min_three max_four min_four   -- for this text's walks alone
set_option linter.unusedVariables false
set_option linter.unusedSimpArgs false

/-! ### spec_laGood: function 62 -/
-- by hand (wip/ext/laGood.tpl)
def spec_laGood.f (l0_0 : List ByteArray) : Option Bool := some (areLampsB l0_0)
set_option maxHeartbeats 4000000 in
set_option maxRecDepth 100000 in
theorem spec_laGood.calls (A0_0 : Option Addr) (c0_0 : Nat) (l0_0 : List ByteArray) (r : Bool) (w : World) (hr0_0 : Kd.C Kd.string w A0_0 l0_0.length l0_0) (hc0_0 : l0_0.length ≤ c0_0) (h : spec_laGood.f l0_0 = some r) :
    Calls Tryd.prog 62 #[.agg #[.slice A0_0 l0_0.length c0_0]] w fun e w' => e = .returned (.bool r) ∧ Below w.heap.size w w' := by
  obtain rfl := Option.some.inj h
  clear h
  have hl := hr0_0.2.1
  have hu := Tryd.underlying37
  have hus := Tryd.underlying9
  have HI := Aside0.mk (fun w1 => spec_l1In.calls l0_0.length 1 10 _ w1 (inB_ite l0_0.length 1 10))
  obtain ⟨R, hR⟩ : ∃ R, R = areLampsB l0_0 := ⟨_, rfl⟩
  rw [← hR]
  have HX := Aside0.mk hR
  have HR := Aside0.mk hr0_0
  clear hr0_0 hR
  obtain ⟨b, hb⟩ : ∃ b, b = inB l0_0.length 1 10 := ⟨_, rfl⟩
  rw [← hb] at HI
  have HBB := Aside0.mk hb
  clear hb
  cases b with
  | false =>
    go_enter Tryd.func62, Tryd.ntmps62
    go_wp2_with (go_at_call 63; refine (HI.out _).mono ?_; rintro e w' ⟨rfl, ⟨n, rfl⟩⟩)
    go_ret
    exact ⟨ret_bool (by rw [HX.out, areLampsB, ← HBB.out]; rfl), pw_below_drewN (below_alloc (Below.refl _ _) _) _⟩
  | true =>
    go_enter Tryd.func62, Tryd.ntmps62
    go_wp2_with (go_at_call 63; refine (HI.out _).mono ?_; rintro e w' ⟨rfl, ⟨n, rfl⟩⟩)
    have HX2 := Aside0.mk (show R = l0_0.all (needB l0_0.length) by rw [HX.out, areLampsB, ← HBB.out]; rfl)
    clear HX HBB HI
    go_loopg [14] l0_0.length (fun gg v14 w' => ∃ k : Nat, k + gg = l0_0.length ∧ v14 = .int .i64 k ∧ Aside0 (∀ j (hj : j < l0_0.length), j < k → needB l0_0.length l0_0[j] = true) ∧ w'.cell? ⟨w.heap.size, 0, none⟩ = some (.slice A0_0 l0_0.length c0_0) ∧ Aside0 (Below w.heap.size w w'))
    case atStart => exact ⟨0, by omega, rfl, ⟨fun j _ h => absurd h (by omega)⟩, by go_simp, ⟨pw_below_drewN (below_alloc (Below.refl _ _) _) _⟩⟩
    case round =>
      obtain ⟨k, hk, rfl, HN, hcl, HB⟩ := hrel
      by_cases hlt : k < l0_0.length
      · obtain ⟨ad, rfl, hx0⟩ := Kd.at_string HR.out (k : Int) (by omega) (by omega)
        simp only [Int.toNat_natCast] at hx0
        replace hx0 := (HB.out.cell (World.block_lt_of_cell? w _ hx0)).trans hx0
        have ex : rdOf ByteArray.empty l0_0 (k : Int) = l0_0[k] := by simp [rdOf, hlt]
        rw [ex] at hx0
        clear ex
        obtain ⟨s, hs⟩ : ∃ s, s = l0_0[k] := ⟨_, rfl⟩
        rw [← hs] at hx0
        have HS := Aside0.mk hs
        clear hs
        have HZ := Aside0.mk (show s.size = s.data.toList.length from Lib.size_eq s)
        by_cases c1 : s.size = l0_0.length
        · have c1b : ((s.size : Int) != (l0_0.length : Int)) = false := bne_eq_false_iff_eq.mpr (by omega)
          have C1 := Aside0.mk c1
          clear c1
          go_wp2
          obtain ⟨K, hK⟩ : ∃ K, K = wr.heap.size := ⟨_, rfl⟩
          rw [← hK]
          have hlt0 : w.heap.size < K := by rw [hK]; exact World.block_lt_of_cell? wr _ hcl
          have hcl0 : (wr.iter s 0).cell? ⟨w.heap.size, 0, none⟩ = some (.slice (some ad) l0_0.length c0_0) := (World.cell?_alloc_past _ _ _ (by simpa [← hK] using hlt0)).trans hcl
          have hi0 : (wr.iter s 0).heap[K]? = some (.stringIter s 0) := by rw [hK]; exact World.iter_heap wr s 0
          have hb0 : Below w.heap.size w (wr.iter s 0) := HB.out.alloc (below_size HB.out) _
          have HHI := Aside0.mk hi0
          have HHB := Aside0.mk hb0
          have HLT := Aside0.mk hlt0
          clear hi0 hb0 hlt0 hK hcl HB hx0
          generalize wr.iter s 0 = W0 at hcl0 HHI HHB ⊢
          go_loopg [5] s.size (fun gg v5 w' => ∃ pos : Nat, pos + gg = s.size ∧ Aside0 (∀ j (hj : j < s.data.toList.length), j < pos → isSign s.data.toList[j] = true) ∧ Aside0 (w'.heap[K]? = some (.stringIter s pos)) ∧ w'.cell? ⟨w.heap.size, 0, none⟩ = some (.slice (some ad) l0_0.length c0_0) ∧ Aside0 (Below w.heap.size w w'))
          case atStart => exact ⟨0, by omega, ⟨fun j _ h => absurd h (by omega)⟩, HHI, hcl0, HHB⟩
          case round =>
            clear HHI HHB hcl0
            obtain ⟨pos, hps, HP, HI, hcl, HB⟩ := hrel
            by_cases hp : pos < s.size
            · have hpl : pos < s.data.toList.length := by rw [← HZ.out]; exact hp
              have hnext : ∀ ty, (Instr.next (.pointer (some ⟨K, 0, none⟩)) true ty).run Tryd.prog wr = _ := fun ty => Lib.run_next_any_at wr K s pos ty HI.out hp
              have hk1 := Lib.iterAt_heap wr K s pos (pos + (Utf8.decode s pos).2) HI.out
              have hb1 := Lib.below_iterAt HB.out (Nat.le_of_lt HLT.out) s (pos + (Utf8.decode s pos).2)
              have hcl1 : (wr.iterAt K s (pos + (Utf8.decode s pos).2)).cell? ⟨w.heap.size, 0, none⟩ = some (.slice (some ad) l0_0.length c0_0) := (cell_iterAt wr K s _ _ (by have := HLT.out; simp; omega)).trans hcl
              have hd := Aside0.mk (decode_sign s pos hp hpl)
              have eb := bt_nat s pos hpl
              obtain ⟨b, hb⟩ : ∃ b, b = s.data.toList[pos] := ⟨_, rfl⟩
              rw [← hb] at hd eb
              have HBY := Aside0.mk hb
              clear hb
              have HK1 := Aside0.mk hk1
              have HB1 := Aside0.mk hb1
              clear hk1 hb1 hcl HI HB
              generalize wr.iterAt K s (pos + (Utf8.decode s pos).2) = W1 at hnext HK1 HB1 hcl1
              generalize (Utf8.decode s pos).1 = rn at hnext
              generalize (Utf8.decode s pos).2 = dn at hd HK1
              have q8 := byte_toInt b 48 (by omega)
              have q9 := byte_toInt b 49 (by omega)
              have q63 := byte_toInt b 63 (by omega)
              rw [← eb] at q8 q9 q63
              have p6 : (0 ≤ (pos : Int)) = True := eq_true (by omega)
              have q6 : ((pos : Int) < (s.size : Int)) = True := eq_true (by omega)
              have hx6 : ((s[pos]'hp).toNat : Int) = bt s pos := by have := bt_at s (pos : Int) (by simpa using hp); simpa using this
              clear eb
              by_cases c8 : b = 48
              · have c8a : (bt s pos == 48) = true := beq_iff_eq.mpr (q8.mpr c8)
                have c8b : (bt s pos != 48) = false := bne_eq_false_iff_eq.mpr (q8.mpr c8)
                have hn := hd.out (by subst c8; rfl)
                subst hn
                have CC := Aside0.mk (show isSign b = true by subst c8; rfl)
                clear c8 q8 q9 q63 hd
                go_wp2
                go_roundg (s.size - (pos + 1))
                case measure => omega
                case rel => exact ⟨pos + 1, by omega, ⟨fun j hj h => (Nat.lt_succ_iff_lt_or_eq.1 h).elim (HP.out j hj) (fun e => by subst e; rw [← HBY.out]; exact CC.out)⟩, HK1, hcl1, HB1⟩
              · have c8a : (bt s pos == 48) = false := beq_eq_false_iff_ne.mpr (fun h => c8 (q8.mp h))
                have c8b : (bt s pos != 48) = true := bne_iff_ne.mpr (fun h => c8 (q8.mp h))
                by_cases c9 : b = 49
                · have c9a : (bt s pos == 49) = true := beq_iff_eq.mpr (q9.mpr c9)
                  have c9b : (bt s pos != 49) = false := bne_eq_false_iff_eq.mpr (q9.mpr c9)
                  have hn := hd.out (by subst c9; rfl)
                  subst hn
                  have CC := Aside0.mk (show isSign b = true by subst c9; rfl)
                  clear c9 c8 q8 q9 q63 hd
                  go_wp2
                  go_roundg (s.size - (pos + 1))
                  case measure => omega
                  case rel => exact ⟨pos + 1, by omega, ⟨fun j hj h => (Nat.lt_succ_iff_lt_or_eq.1 h).elim (HP.out j hj) (fun e => by subst e; rw [← HBY.out]; exact CC.out)⟩, HK1, hcl1, HB1⟩
                · have c9a : (bt s pos == 49) = false := beq_eq_false_iff_ne.mpr (fun h => c9 (q9.mp h))
                  have c9b : (bt s pos != 49) = true := bne_iff_ne.mpr (fun h => c9 (q9.mp h))
                  by_cases c63 : b = 63
                  · have c63a : (bt s pos == 63) = true := beq_iff_eq.mpr (q63.mpr c63)
                    have c63b : (bt s pos != 63) = false := bne_eq_false_iff_eq.mpr (q63.mpr c63)
                    have hn := hd.out (by subst c63; rfl)
                    subst hn
                    have CC := Aside0.mk (show isSign b = true by subst c63; rfl)
                    clear c63 c9 c8 q8 q9 q63 hd
                    go_wp2
                    go_roundg (s.size - (pos + 1))
                    case measure => omega
                    case rel => exact ⟨pos + 1, by omega, ⟨fun j hj h => (Nat.lt_succ_iff_lt_or_eq.1 h).elim (HP.out j hj) (fun e => by subst e; rw [← HBY.out]; exact CC.out)⟩, HK1, hcl1, HB1⟩
                  · have c63a : (bt s pos == 63) = false := beq_eq_false_iff_ne.mpr (fun h => c63 (q63.mp h))
                    have c63b : (bt s pos != 63) = true := bne_iff_ne.mpr (fun h => c63 (q63.mp h))
                    have CC := Aside0.mk (show isSign b = false by simp [isSign, c8, c9, c63])
                    clear c8 c9 c63 q8 q9 q63 hd
                    go_wp2
                    go_ret
                    exact ⟨ret_bool (by rw [HX2.out, all_not _ _ k hlt (by rw [← HS.out, needB, all_not isSign _ pos hpl (by rw [← HBY.out]; exact CC.out)]; simp)]), HB1.out⟩
            · have hnext : ∀ ty, (Instr.next (.pointer (some ⟨K, 0, none⟩)) true ty).run Tryd.prog wr = _ := fun ty => Lib.run_next_end_at wr K s pos ty HI.out hp
              go_wp2
              go_roundg (l0_0.length - (k + 1))
              case measure => omega
              case rel =>
                refine ⟨k + 1, by omega, by go_num, ⟨fun j hj h => (Nat.lt_succ_iff_lt_or_eq.1 h).elim (HN.out j hj) (fun e => ?_)⟩, hcl, HB⟩
                subst e
                rw [← HS.out, needB, C1.out, all_of isSign _ (fun i hi => HP.out i hi (by have := HZ.out; omega))]
                simp
        · have c1b : ((s.size : Int) != (l0_0.length : Int)) = true := bne_iff_ne.mpr (by omega)
          have C1 := Aside0.mk c1
          clear c1
          go_wp2
          go_ret
          exact ⟨ret_bool (by rw [HX2.out, all_not _ _ k hlt (by rw [← HS.out]; simp [needB, C1.out])]), HB.out⟩
      · go_wp2
        go_ret
        exact ⟨ret_bool (by rw [HX2.out, all_of _ _ (fun j hj => HN.out j hj (by omega))]), HB.out⟩

/-! ### spec_l1Num: function 114 -/
def spec_l1Num.f : Nat → Int → Option (ByteArray)
 | 0, _ => none
 | k + 1, a0 => if a0 < 10 then (some (strOfNums (([(wrap64 (48 + a0)) % 256] : List Int)))) else ((spec_l1Num.f k (wrap64 (Int.tdiv a0 10))).bind fun t131 => ((some (([(wrap64 (48 + (Int.tmod a0 10))) % 256] : List Int) : List Int)).bind fun y132 => (if t131.size + (strOfNums y132).size ≤ 9223372036854775807 then (some (t131 ++ (strOfNums y132))) else (none))))
theorem spec_l1Num.mono_l : ∀ k, (∀ y0, LeO (spec_l1Num.f k y0) (spec_l1Num.f (k + 1) y0))
 | 0 => fun _ r h => by simp [spec_l1Num.f] at h
 | k + 1 => by
  have ih0 := spec_l1Num.mono_l k
  ·intro y0
   unfold spec_l1Num.f
   repeat' first
   | (with_reducible exact ih0 _)
   | (with_reducible exact LeO.refl _)
   | (with_reducible exact LeO.none _)
   | (with_reducible refine LeO.ite ?_ ?_)
   | (with_reducible refine LeO.bind ?_ (fun _ => ?_))
   | exact ih0 _
   | exact LeO.none _
   | refine LeO.ite ?_ ?_
   | refine LeO.bind ?_ (fun _ => ?_)
theorem spec_l1Num.mono : ∀ a0 k, LeO (spec_l1Num.f k a0) (spec_l1Num.f (k + 1) a0) := by
 intro a0 k
 have ih0 := spec_l1Num.mono_l k
 exact ih0 a0
def spec_l1Num.T3 : Bool × List (List Nat × List Nat) := (true, [([], []), ([0], [0]), ([1], [1]), ([], []), ([3], [3]), ([4], [4]), ([5], [5]), ([6], [6]), ([7], [7]), ([2, 8], [2, 8]), ([9, 2, 0, 1, 2, 3, 4, 5, 6, 7, 8, 9], [9])])
def spec_l1Num.B3 : List Nat := [0, 1, 3, 0, 8, 24, 56, 120, 248, 511, 1023]
theorem spec_l1Num.tab3 : rtab .any (opsOf Tryd.f114 3) = spec_l1Num.T3 := by kernel_rfl
theorem spec_l1Num.bits3 : waitsOk spec_l1Num.T3.2 spec_l1Num.B3 = true := by kernel_rfl
set_option maxHeartbeats 8000000 in
set_option maxRecDepth 100000 in
theorem spec_l1Num.calls (k : Nat) : ∀ (a0 : Int) (r : ByteArray) (w : World) (h : spec_l1Num.f k a0 = some r),
  Calls Tryd.prog 114 #[.int .i64 a0] w fun e w' => e = .returned (.string r) ∧ Below w.heap.size w w' := by
 induction k using Nat.strongRecOn with
 | _ k ih =>
 intro a0 r w h
 cases k with
 | zero => exact absurd h (by simp [spec_l1Num.f])
 | succ k =>
 simp only [spec_l1Num.f] at h
 have HB := Aside0.mk (Below.refl w.heap.size w)
 have H : (if a0 < 10 then (some (strOfNums (([(wrap64 (48 + a0)) % 256] : List Int)))) else ((spec_l1Num.f k (wrap64 (Int.tdiv a0 10))).bind fun t131 => ((some (([(wrap64 (48 + (Int.tmod a0 10))) % 256] : List Int) : List Int)).bind fun y132 => (if t131.size + (strOfNums y132).size ≤ 9223372036854775807 then (some (t131 ++ (strOfNums y132))) else (none))))) = some r := h
 clear h
 by_cases c2 : a0 < 10
 ·rw [if_pos c2] at H
  have c2b0 : decide (a0 < 10) = true := decide_eq_true c2
  clear c2
  obtain ⟨y128, hy128⟩ : ∃ y_ : List Int, y_ = (([(wrap64 (48 + a0)) % 256] : List Int)) := ⟨_, rfl⟩
  replace H : (some (strOfNums y128)) = some r := by first | (rw [hy128]; with_reducible exact H) | (have H2_ := (Option.bind_some _ _).symm.trans H; rw [hy128]; with_reducible exact H2_) | (have H2_ := (Option.bind_some _ _).symm.trans H; with_reducible exact H2_) | with_reducible exact H | (rw [hy128]; exact H) | exact H
  have Ny128 := Aside0.mk hy128
  clear hy128
  obtain rfl := Option.some.inj H
  go_enter Tryd.func114, Tryd.ntmps114
  go_wp2_with (first | ((with_reducible refine gate_dst (N := 8) rfl ?_); refine Kd.R_lit (Kd.int .u8) _ 5 ?hg (N := 8) ?hd (xs := ([(wrap64 (48 + a0)) % 256] : List Int)) (inner := [.int .u8 ((wrap64 (48 + a0)) % 256)]) (ok := fun _ => True) (okp := fun _ => True) ?hr ?hp (fun _ hk => hk) trivial (Below.refl _ _) (Nat.le_refl _) (by simp) ?_; (case hd => rfl); (case hg => rfl); (case hr => first | (go_simp; done) | (go_simp; rfl)); (case hp => exact (Reps.one (show Kd.M (Kd.int .u8) _ _ _ ((wrap64 (48 + a0)) % 256) [.int .u8 ((wrap64 (48 + a0)) % 256)] from rfl) (Reps.none _ _))); intro v129 w3 ho4 hb hg_ hnew_; clear hg_ hnew_; (first | rw [← Ny128.out] at ho4 | (simp only [Int.reduceToNat] at ho4; rw [← Ny128.out] at ho4)); have n0_ := Aside0.mk (Kd.R_lower ho4 (below_size (by repeat (first | (with_reducible first | exact HB.out | apply below_alloc | apply pw_below_drewN | apply below_drew1) | exact HB.out)))); have n1_ := Aside0.mk (below_step (by repeat (first | (with_reducible first | exact HB.out | apply below_alloc | apply pw_below_drewN | apply below_drew1) | exact HB.out)) hb); clear HB; have HO130 := n0_; have HB := n1_; clear n0_ n1_; clear hb ho4; have hcv5 := own_string (P := Tryd.prog) Tryd.underlying82 Tryd.underlying5 Tryd.underlying9 (Kd.own_of_R HO130.out)))
  go_ret
  exact ⟨by first | rfl | (simp [errW_none, errW_some] <;> rfl) | (simp [*, errW_none, errW_some] <;> rfl), by repeat (first | (with_reducible first | exact HB.out | apply below_alloc | apply pw_below_drewN | apply below_drew1) | exact HB.out)⟩
 ·rw [if_neg c2] at H
  have c2b0 : decide (a0 < 10) = false := decide_eq_false c2
  clear c2
  replace H := Option.bind_eq_some_iff.mp H
  obtain ⟨t131, A60, H⟩ := H
  replace H : ((some (([(wrap64 (48 + (Int.tmod a0 10))) % 256] : List Int) : List Int)).bind fun y132 => (if t131.size + (strOfNums y132).size ≤ 9223372036854775807 then (some (t131 ++ (strOfNums y132))) else (none))) = some r := H
  have A6 := Aside0.mk A60
  clear A60
  obtain ⟨y132, hy132⟩ : ∃ y_ : List Int, y_ = (([(wrap64 (48 + (Int.tmod a0 10))) % 256] : List Int)) := ⟨_, rfl⟩
  replace H : (if t131.size + (strOfNums y132).size ≤ 9223372036854775807 then (some (t131 ++ (strOfNums y132))) else (none)) = some r := by first | (rw [hy132]; with_reducible exact H) | (have H2_ := (Option.bind_some _ _).symm.trans H; rw [hy132]; with_reducible exact H2_) | (have H2_ := (Option.bind_some _ _).symm.trans H; with_reducible exact H2_) | with_reducible exact H | (rw [hy132]; exact H) | exact H
  have Ny132 := Aside0.mk hy132
  clear hy132
  by_cases c7 : t131.size + (strOfNums y132).size ≤ 9223372036854775807
  ·rw [if_pos c7] at H
   have c7b0 := eq_true c7
   have c7b1 : decide (t131.size + (strOfNums y132).size ≤ 9223372036854775807) = true := decide_eq_true c7
   try have c7b2 : (9223372036854775807 < t131.size + (strOfNums y132).size) = False := eq_false (Nat.not_lt.2 c7)
   obtain rfl := Option.some.inj H
   go_enter Tryd.func114, Tryd.ntmps114
   try go_wp2
   have n0_ := Aside0.mk (below_drew1 HB.out)
   clear HB
   have HB := n0_
   clear n0_
   refine start_ (n := 11) (S := fun w' => True) (ds := []) #[false, false, false, false, false, false, false, false, false, false, false] (by kernel_rfl) rfl rfl trivial (fun hHeld => ?_); refine with_tabW spec_l1Num.tab3 spec_l1Num.bits3 (fun HT_ HW_ => ?_)
   generalize w.drew = w8 at HB hHeld ⊢
   refine pure_ (i := 0) (N := some 10) (v := ?_) (a' := ?_) #[true, false, false, false, false, false, false, false, false, false, false] rfl rfl (any_of HT_.out (by kernel_rfl)) (fun _ _ _ h => h) (Or.inl ⟨by rfl, ?_⟩) ?_ ?_
   rotate_left
   ·intro w'
    go_simp
    with_reducible rfl
   rotate_left
   ·simp only [Act.put, List.setIfInBounds_toArray, List.set_cons_zero, List.set_cons_succ, i64_w, i32_w]
    rfl
   refine pure_ (i := 1) (N := some 11) (v := ?_) (a' := ?_) #[true, true, false, false, false, false, false, false, false, false, false] rfl rfl (any_of HT_.out (by kernel_rfl)) (fun _ _ _ h => h) (Or.inl ⟨by rfl, ?_⟩) ?_ ?_
   rotate_left
   ·intro w'
    go_simp
    with_reducible rfl
   rotate_left
   ·simp only [Act.put, List.setIfInBounds_toArray, List.set_cons_zero, List.set_cons_succ, i64_w, i32_w]
    rfl
   refine pure_ (i := 3) (N := some 13) (v := ?_) (a' := ?_) #[true, true, false, true, false, false, false, false, false, false, false] rfl rfl (any_of HT_.out (by kernel_rfl)) (fun _ _ _ h => h) (Or.inl ⟨by rfl, ?_⟩) ?_ ?_
   rotate_left
   ·intro w'
    go_simp
    with_reducible rfl
   rotate_left
   ·simp only [Act.put, List.setIfInBounds_toArray, List.set_cons_zero, List.set_cons_succ, i64_w, i32_w]
    rfl
   refine pure_ (i := 4) (N := some 14) (v := ?_) (a' := ?_) #[true, true, false, true, true, false, false, false, false, false, false] rfl rfl (any_of HT_.out (by kernel_rfl)) (fun _ _ _ h => h) (Or.inl ⟨by rfl, ?_⟩) ?_ ?_
   rotate_left
   ·intro w'
    go_simp
    with_reducible rfl
   rotate_left
   ·simp only [Act.put, List.setIfInBounds_toArray, List.set_cons_zero, List.set_cons_succ, i64_w, i32_w]
    rfl
   refine pure_ (i := 5) (N := some 15) (v := ?_) (a' := ?_) #[true, true, false, true, true, true, false, false, false, false, false] rfl rfl (any_of HT_.out (by kernel_rfl)) (fun _ _ _ h => h) (Or.inl ⟨by rfl, ?_⟩) ?_ ?_
   rotate_left
   ·intro w'
    go_simp
    with_reducible rfl
   rotate_left
   ·simp only [Act.put, List.setIfInBounds_toArray, List.set_cons_zero, List.set_cons_succ, i64_w, i32_w]
    rfl
   refine pure_ (i := 6) (N := some 16) (v := ?_) (a' := ?_) #[true, true, false, true, true, true, true, false, false, false, false] rfl rfl (any_of HT_.out (by kernel_rfl)) (fun _ _ _ h => h) (Or.inl ⟨by rfl, ?_⟩) ?_ ?_
   rotate_left
   ·intro w'
    go_simp
    with_reducible rfl
   rotate_left
   ·simp only [Act.put, List.setIfInBounds_toArray, List.set_cons_zero, List.set_cons_succ, i64_w, i32_w]
    rfl
   refine join_ (σ := Value) 2 #[true, true, true, true, true, true, true, true, true, false, false] (fun s_ => [(12, .string t131), (17, s_), (18, .string (strOfNums y132))]) (fun s_ w' => (Kd.R (Kd.int .u8) 5 w' w.heap.size (fun _ => True) s_ y132) ∧ (Below w.heap.size w w')) ?_ ?_
   rotate_left
   ·intro hCont
    refine two_ (i := 2) (j := 7) (Ni := some 12) (Nj := some 17) #[true, true, true, true, true, true, true, false, false, false, false] #[true, true, false, true, true, true, true, true, false, false, false] rfl rfl rfl rfl (two_of HT_.out (by kernel_rfl)) (by decide) (by decide) (fun K hK => ?_) (fun K hK => ?_)
    ·skip
     refine goes_ Tryd.func114 (by kernel_rfl) rfl #[.int .i64 (wrap64 (Int.tdiv a0 10))] (by rfl) rfl rfl (by (try simp only [List.map_toArray, List.map_cons, List.map_nil]); first | done | rfl | (simp only [List.length_drop, List.length_take]; rfl)) ?_
     with_reducible refine (ih k (by omega) (wrap64 (Int.tdiv a0 10)) t131 _ A6.out).mono ?_
     rintro e w9 ⟨rfl, hb⟩
     refine ⟨_, rfl, ?_⟩
     have n0_ := Aside0.mk (below_step (by repeat (first | (with_reducible first | exact HB.out | apply below_alloc | apply pw_below_drewN | apply below_drew1) | exact HB.out)) hb)
     clear HB
     have HB := n0_
     clear n0_
     (try clear hb)
     (try clear hb2)
     (try clear hk)
     (try clear hi)
     refine hK.out _ _ trivial (fun hHeld => ?_)
     clear hK K
     refine norm_ (a' := ?_) ?_ ?_
     rotate_left
     ·show Act.put _ (some 12) _ = _
      simp only [Act.put, List.setIfInBounds_toArray, List.set_cons_zero, List.set_cons_succ, i64_w, i32_w]
      rfl
     refine one_ (i := 7) (N := some 17) #[true, true, true, true, true, true, true, true, false, false, false] rfl rfl (one_of HT_.out (by kernel_rfl)) (by decide) (fun K hK => ?_)
     refine Kd.R_lit_step (Kd.int .u8) _ 5 ?hg (N := 17) ?hd (xs := ([(wrap64 (48 + (Int.tmod a0 10))) % 256] : List Int)) (inner := [.int .u8 ((wrap64 (48 + (Int.tmod a0 10))) % 256)]) (ok := fun _ => True) (okp := fun _ => True) ?hr ?hp (fun _ hk => hk) trivial (Below.refl _ _) (Nat.le_refl _) (by simp) ?_; (case hd => rfl); (case hg => rfl); (case hr => first | (go_simp; done) | (go_simp; rfl)); (case hp => exact (Reps.one (show Kd.M (Kd.int .u8) _ _ _ ((wrap64 (48 + (Int.tmod a0 10))) % 256) [.int .u8 ((wrap64 (48 + (Int.tmod a0 10))) % 256)] from rfl) (Reps.none _ _)))
     intro v133 w10 ho11 hb hg_ hnew_
     clear hg_ hnew_
     (first | rw [← Ny132.out] at ho11 | (simp only [Int.reduceToNat] at ho11; rw [← Ny132.out] at ho11))
     have n0_ := Aside0.mk (Kd.R_lower ho11 (below_size (by repeat (first | (with_reducible first | exact HB.out | apply below_alloc | apply pw_below_drewN | apply below_drew1) | exact HB.out))))
     have n1_ := Aside0.mk (below_step (by repeat (first | (with_reducible first | exact HB.out | apply below_alloc | apply pw_below_drewN | apply below_drew1) | exact HB.out)) hb)
     clear HB
     have HO134 := n0_
     have HB := n1_
     clear n0_ n1_
     clear hb ho11
     refine hK.out _ _ trivial (fun hHeld => ?_)
     clear hK K
     refine norm_ (a' := ?_) ?_ ?_
     rotate_left
     ·show Act.put _ (some 17) _ = _
      simp only [Act.put, List.setIfInBounds_toArray, List.set_cons_zero, List.set_cons_succ, i64_w, i32_w]
      rfl
     refine one_ (i := 8) (N := some 18) #[true, true, true, true, true, true, true, true, true, false, false] rfl rfl (one_of HT_.out (by kernel_rfl)) (by decide) (fun K hK => ?_)
     have hcv12 := own_string (P := Tryd.prog) Tryd.underlying82 Tryd.underlying5 Tryd.underlying9 (Kd.own_of_R HO134.out)
     refine value_ (w1 := ?_) (v := ?_) (by rfl) rfl ?_ ?_
     rotate_left 2
     ·go_simp
      constructor
      ·rfl
      ·rfl
     clear hcv12
     refine hK.out _ _ trivial (fun hHeld => ?_)
     clear hK K
     refine norm_ (a' := ?_) ?_ ?_
     rotate_left
     ·show Act.put _ (some 18) _ = _
      simp only [Act.put, List.setIfInBounds_toArray, List.set_cons_zero, List.set_cons_succ, i64_w, i32_w]
      rfl
     exact norm_ (by simp only [putAll, Act.put, List.setIfInBounds_toArray, List.set_cons_zero, List.set_cons_succ]) (hCont (v133) _ ⟨(by (with_reducible repeat (first | apply Kd.R_alloc | apply Kd.R_drewN | apply Kd.R_drew)); exact HO134.out), (by repeat (first | (with_reducible first | exact HB.out | apply below_alloc | apply pw_below_drewN | apply below_drew1) | exact HB.out))⟩)
    ·skip
     refine Kd.R_lit_step (Kd.int .u8) _ 5 ?hg (N := 17) ?hd (xs := ([(wrap64 (48 + (Int.tmod a0 10))) % 256] : List Int)) (inner := [.int .u8 ((wrap64 (48 + (Int.tmod a0 10))) % 256)]) (ok := fun _ => True) (okp := fun _ => True) ?hr ?hp (fun _ hk => hk) trivial (Below.refl _ _) (Nat.le_refl _) (by simp) ?_; (case hd => rfl); (case hg => rfl); (case hr => first | (go_simp; done) | (go_simp; rfl)); (case hp => exact (Reps.one (show Kd.M (Kd.int .u8) _ _ _ ((wrap64 (48 + (Int.tmod a0 10))) % 256) [.int .u8 ((wrap64 (48 + (Int.tmod a0 10))) % 256)] from rfl) (Reps.none _ _)))
     intro v133 w9 ho10 hb hg_ hnew_
     clear hg_ hnew_
     (first | rw [← Ny132.out] at ho10 | (simp only [Int.reduceToNat] at ho10; rw [← Ny132.out] at ho10))
     have n0_ := Aside0.mk (Kd.R_lower ho10 (below_size (by repeat (first | (with_reducible first | exact HB.out | apply below_alloc | apply pw_below_drewN | apply below_drew1) | exact HB.out))))
     have n1_ := Aside0.mk (below_step (by repeat (first | (with_reducible first | exact HB.out | apply below_alloc | apply pw_below_drewN | apply below_drew1) | exact HB.out)) hb)
     clear HB
     have HO134 := n0_
     have HB := n1_
     clear n0_ n1_
     clear hb ho10
     refine hK.out _ _ trivial (fun hHeld => ?_)
     clear hK K
     refine norm_ (a' := ?_) ?_ ?_
     rotate_left
     ·show Act.put _ (some 17) _ = _
      simp only [Act.put, List.setIfInBounds_toArray, List.set_cons_zero, List.set_cons_succ, i64_w, i32_w]
      rfl
     refine two_ (i := 2) (j := 8) (Ni := some 12) (Nj := some 18) #[true, true, true, true, true, true, true, true, false, false, false] #[true, true, false, true, true, true, true, true, true, false, false] rfl rfl rfl rfl (two_of HT_.out (by kernel_rfl)) (by decide) (by decide) (fun K hK => ?_) (fun K hK => ?_)
     ·skip
      refine goes_ Tryd.func114 (by kernel_rfl) rfl #[.int .i64 (wrap64 (Int.tdiv a0 10))] (by rfl) rfl rfl (by (try simp only [List.map_toArray, List.map_cons, List.map_nil]); first | done | rfl | (simp only [List.length_drop, List.length_take]; rfl)) ?_
      with_reducible refine (ih k (by omega) (wrap64 (Int.tdiv a0 10)) t131 _ A6.out).mono ?_
      rintro e w11 ⟨rfl, hb⟩
      refine ⟨_, rfl, ?_⟩
      have n0_ := Aside0.mk (Kd.R_below (by (with_reducible repeat (first | apply Kd.R_alloc | apply Kd.R_drewN | apply Kd.R_drew)); exact HO134.out) hb)
      have n1_ := Aside0.mk (below_step (by repeat (first | (with_reducible first | exact HB.out | apply below_alloc | apply pw_below_drewN | apply below_drew1) | exact HB.out)) hb)
      clear HO134
      clear HB
      have HO134 := n0_
      have HB := n1_
      clear n0_ n1_
      (try clear hb)
      (try clear hb2)
      (try clear hk)
      (try clear hi)
      refine hK.out _ _ trivial (fun hHeld => ?_)
      clear hK K
      refine norm_ (a' := ?_) ?_ ?_
      rotate_left
      ·show Act.put _ (some 12) _ = _
       simp only [Act.put, List.setIfInBounds_toArray, List.set_cons_zero, List.set_cons_succ, i64_w, i32_w]
       rfl
      refine one_ (i := 8) (N := some 18) #[true, true, true, true, true, true, true, true, true, false, false] rfl rfl (one_of HT_.out (by kernel_rfl)) (by decide) (fun K hK => ?_)
      have hcv12 := own_string (P := Tryd.prog) Tryd.underlying82 Tryd.underlying5 Tryd.underlying9 (Kd.own_of_R HO134.out)
      refine value_ (w1 := ?_) (v := ?_) (by rfl) rfl ?_ ?_
      rotate_left 2
      ·go_simp
       constructor
       ·rfl
       ·rfl
      clear hcv12
      refine hK.out _ _ trivial (fun hHeld => ?_)
      clear hK K
      refine norm_ (a' := ?_) ?_ ?_
      rotate_left
      ·show Act.put _ (some 18) _ = _
       simp only [Act.put, List.setIfInBounds_toArray, List.set_cons_zero, List.set_cons_succ, i64_w, i32_w]
       rfl
      exact norm_ (by simp only [putAll, Act.put, List.setIfInBounds_toArray, List.set_cons_zero, List.set_cons_succ]) (hCont (v133) _ ⟨(by (with_reducible repeat (first | apply Kd.R_alloc | apply Kd.R_drewN | apply Kd.R_drew)); exact HO134.out), (by repeat (first | (with_reducible first | exact HB.out | apply below_alloc | apply pw_below_drewN | apply below_drew1) | exact HB.out))⟩)
     ·skip
      have hcv11 := own_string (P := Tryd.prog) Tryd.underlying82 Tryd.underlying5 Tryd.underlying9 (Kd.own_of_R HO134.out)
      refine value_ (w1 := ?_) (v := ?_) (by rfl) rfl ?_ ?_
      rotate_left 2
      ·go_simp
       constructor
       ·rfl
       ·rfl
      clear hcv11
      refine hK.out _ _ trivial (fun hHeld => ?_)
      clear hK K
      refine norm_ (a' := ?_) ?_ ?_
      rotate_left
      ·show Act.put _ (some 18) _ = _
       simp only [Act.put, List.setIfInBounds_toArray, List.set_cons_zero, List.set_cons_succ, i64_w, i32_w]
       rfl
      refine one_ (i := 2) (N := some 12) #[true, true, true, true, true, true, true, true, true, false, false] rfl rfl (one_of HT_.out (by kernel_rfl)) (by decide) (fun K hK => ?_)
      refine goes_ Tryd.func114 (by kernel_rfl) rfl #[.int .i64 (wrap64 (Int.tdiv a0 10))] (by rfl) rfl rfl (by (try simp only [List.map_toArray, List.map_cons, List.map_nil]); first | done | rfl | (simp only [List.length_drop, List.length_take]; rfl)) ?_
      with_reducible refine (ih k (by omega) (wrap64 (Int.tdiv a0 10)) t131 _ A6.out).mono ?_
      rintro e w12 ⟨rfl, hb⟩
      refine ⟨_, rfl, ?_⟩
      have n0_ := Aside0.mk (Kd.R_below (by (with_reducible repeat (first | apply Kd.R_alloc | apply Kd.R_drewN | apply Kd.R_drew)); exact HO134.out) hb)
      have n1_ := Aside0.mk (below_step (by repeat (first | (with_reducible first | exact HB.out | apply below_alloc | apply pw_below_drewN | apply below_drew1) | exact HB.out)) hb)
      clear HO134
      clear HB
      have HO134 := n0_
      have HB := n1_
      clear n0_ n1_
      (try clear hb)
      (try clear hb2)
      (try clear hk)
      (try clear hi)
      refine hK.out _ _ trivial (fun hHeld => ?_)
      clear hK K
      refine norm_ (a' := ?_) ?_ ?_
      rotate_left
      ·show Act.put _ (some 12) _ = _
       simp only [Act.put, List.setIfInBounds_toArray, List.set_cons_zero, List.set_cons_succ, i64_w, i32_w]
       rfl
      exact norm_ (by simp only [putAll, Act.put, List.setIfInBounds_toArray, List.set_cons_zero, List.set_cons_succ]) (hCont (v133) _ ⟨(by (with_reducible repeat (first | apply Kd.R_alloc | apply Kd.R_drewN | apply Kd.R_drew)); exact HO134.out), (by repeat (first | (with_reducible first | exact HB.out | apply below_alloc | apply pw_below_drewN | apply below_drew1) | exact HB.out))⟩)
   rintro v133 w13 ⟨h0_, h1_⟩
   have n0_ : Aside0 (Kd.R (Kd.int .u8) 5 w13 w.heap.size (fun _ => True) v133 y132) := ⟨h0_⟩
   have n1_ : Aside0 (Below w.heap.size w w13) := ⟨h1_⟩
   clear HB
   clear h0_ h1_
   have HO134 := n0_
   have HB := n1_
   clear n0_ n1_
   have hHeld := trivial
   refine norm_ (a' := ?_) ?_ ?_
   rotate_left
   ·simp only [putAll, Act.put, List.setIfInBounds_toArray, List.set_cons_zero, List.set_cons_succ]
    rfl
   refine pure_ (i := 9) (N := some 19) (v := ?_) (a' := ?_) #[true, true, true, true, true, true, true, true, true, true, false] rfl rfl (any_of HT_.out (by kernel_rfl)) (fun _ _ _ h => h) (Or.inl ⟨by rfl, ?_⟩) ?_ ?_
   rotate_left
   ·intro w'
    go_simp
    with_reducible rfl
   rotate_left
   ·simp only [Act.put, List.setIfInBounds_toArray, List.set_cons_zero, List.set_cons_succ, i64_w, i32_w]
    rfl
   refine pure_ (i := 10) (N := some 2) (v := ?_) (a' := ?_) #[true, true, true, true, true, true, true, true, true, true, true] rfl rfl (any_of HT_.out (by kernel_rfl)) (fun _ _ _ h => h) (Or.inl ⟨by rfl, ?_⟩) ?_ ?_
   rotate_left
   ·intro w'
    go_simp
    with_reducible rfl
   rotate_left
   ·simp only [Act.put, List.setIfInBounds_toArray, List.set_cons_zero, List.set_cons_succ, i64_w, i32_w]
    rfl
   refine done_ (done_of HT_.out (by kernel_rfl)) ?_
   try go_wp2
   go_ret
   exact ⟨by first | rfl | (simp [errW_none, errW_some] <;> rfl) | (simp [*, errW_none, errW_some] <;> rfl), by repeat (first | (with_reducible first | exact HB.out | apply below_alloc | apply pw_below_drewN | apply below_drew1) | exact HB.out)⟩
  ·rw [if_neg c7] at H
   exact absurd H (by simp)

/-! ### spec_laOf: function 79 -/
def spec_laOf.l0 : Nat → Int → ByteArray → Int → Option (ByteArray)
 | 0, _, _, _ => none
 | k + 1, x1, x5, x6 => if x6 ≥ 0 then (if 0 ≤ x6 then ((spec_l1Num.f k (Go.bits .and .i64 (shr .i64 x1 x6) 1)).bind fun t135 => (if x5.size + t135.size ≤ 9223372036854775807 then (spec_laOf.l0 k x1 (x5 ++ t135) (wrap64 (x6 - 1))) else (none))) else (none)) else (some x5)
def spec_laOf.f (k : Nat) (a0 : Int) (a1 : Int) : Option (ByteArray) := spec_laOf.l0 k a1 (⟨#[]⟩ : ByteArray) (wrap64 (a0 - 1))
theorem spec_laOf.mono_l : ∀ k, (∀ y0 y1 y2, LeO (spec_laOf.l0 k y0 y1 y2) (spec_laOf.l0 (k + 1) y0 y1 y2))
 | 0 => fun _ _ _ r h => by simp [spec_laOf.l0] at h
 | k + 1 => by
  have ih0 := spec_laOf.mono_l k
  ·intro y0 y1 y2
   unfold spec_laOf.l0
   repeat' first
   | (with_reducible exact ih0 _ _ _)
   | (with_reducible exact spec_l1Num.mono _ _)
   | (with_reducible exact LeO.refl _)
   | (with_reducible exact LeO.none _)
   | (with_reducible refine LeO.ite ?_ ?_)
   | (with_reducible refine LeO.bind ?_ (fun _ => ?_))
   | exact ih0 _ _ _
   | exact spec_l1Num.mono _ _
   | exact LeO.none _
   | refine LeO.ite ?_ ?_
   | refine LeO.bind ?_ (fun _ => ?_)
theorem spec_laOf.mono : ∀ a0 a1 k, LeO (spec_laOf.f k a0 a1) (spec_laOf.f (k + 1) a0 a1) := by
 intro a0 a1 k
 have ih0 := spec_laOf.mono_l k
 unfold spec_laOf.f
 repeat' first
   | (with_reducible exact ih0 _ _ _)
   | (with_reducible exact spec_l1Num.mono _ _)
   | (with_reducible exact LeO.refl _)
   | (with_reducible exact LeO.none _)
   | (with_reducible refine LeO.ite ?_ ?_)
   | (with_reducible refine LeO.bind ?_ (fun _ => ?_))
   | exact ih0 _ _ _
   | exact spec_l1Num.mono _ _
   | exact LeO.none _
   | refine LeO.ite ?_ ?_
   | refine LeO.bind ?_ (fun _ => ?_)
set_option maxHeartbeats 8000000 in
set_option maxRecDepth 100000 in
theorem spec_laOf.calls (k : Nat) (a0 : Int) (a1 : Int) (r : ByteArray) (w : World) (h : spec_laOf.f k a0 a1 = some r) :
  Calls Tryd.prog 79 #[.int .i64 a0, .int .i64 a1] w fun e w' => e = .returned (.string r) ∧ Below w.heap.size w w' := by
 have HB := Aside0.mk (Below.refl w.heap.size w)
 have H : (spec_laOf.l0 k a1 (⟨#[]⟩ : ByteArray) (wrap64 (a0 - 1))) = some r := h
 clear h
 have H' := Aside0.mk H
 clear H
 go_enter Tryd.func79, Tryd.ntmps79
 go_wp2
 go_loopg [5, 6] k (fun kq v5 v6 w' => ∃ (x5_1 : ByteArray) (x6_1 : Int), v5 = .string x5_1 ∧ v6 = .int .i64 x6_1 ∧ Aside0 (spec_laOf.l0 kq a1 x5_1 x6_1 = some r) ∧ Aside0 (kq ≤ k) ∧ Aside0 (Below w.heap.size w w'))
 case atStart => exact ⟨((⟨#[]⟩ : ByteArray)), (wrap64 (a0 - 1)), (by first | rfl | (simp; done) | (simp [*]; done)), (by first | rfl | (simp; done) | (simp [*]; done)), H', ⟨Nat.le_refl _⟩, ⟨by repeat (first | (with_reducible first | exact HB.out | apply below_alloc | apply pw_below_drewN | apply below_drew1) | exact HB.out)⟩⟩
 case round =>
  clear H'
  try clear p2
  obtain ⟨x5_1, x6_1, rfl, rfl, HA, HK1, HB⟩ := hrel
  cases gk with
  | zero => exact absurd HA.out (by simp [spec_laOf.l0])
  | succ k1 =>
   have H := HA.out
   clear HA
   simp only [spec_laOf.l0] at H
   by_cases c3 : x6_1 ≥ 0
   ·rw [if_pos c3] at H
    have c3b0 : decide (0 ≤ x6_1) = true := decide_eq_true c3
    clear c3
    by_cases c4 : 0 ≤ x6_1
    ·rw [if_pos c4] at H
     have c4b0 := eq_true c4
     have c4b1 : decide (0 ≤ x6_1) = true := decide_eq_true c4
     clear c4
     obtain ⟨ji5, hji5⟩ : ∃ j_ : Int, (shr .i64 a1 x6_1) = j_ := ⟨_, rfl⟩
     replace H : ((spec_l1Num.f k1 (Go.bits .and .i64 (ji5) 1)).bind fun t135 => (if x5_1.size + t135.size ≤ 9223372036854775807 then (spec_laOf.l0 k1 a1 (x5_1 ++ t135) (wrap64 (x6_1 - 1))) else (none))) = some r := by first | (rw [hji5] at H; exact H) | (simp only [hji5] at H ⊢; exact H)
     have hji5_ : (a1 / 2 ^ min x6_1.toNat 64) = ji5 := hji5
     have hji5z : x6_1 ≤ 64 → (a1 / 2 ^ x6_1.toNat) = ji5 := shr_small hji5
     replace H := Option.bind_eq_some_iff.mp H
     obtain ⟨t135, A60, H⟩ := H
     replace H : (if x5_1.size + t135.size ≤ 9223372036854775807 then (spec_laOf.l0 k1 a1 (x5_1 ++ t135) (wrap64 (x6_1 - 1))) else (none)) = some r := H
     have A6 := Aside0.mk A60
     clear A60
     by_cases c7 : x5_1.size + t135.size ≤ 9223372036854775807
     ·rw [if_pos c7] at H
      have c7b0 := eq_true c7
      have c7b1 : decide (x5_1.size + t135.size ≤ 9223372036854775807) = true := decide_eq_true c7
      try have c7b2 : (9223372036854775807 < x5_1.size + t135.size) = False := eq_false (Nat.not_lt.2 c7)
      have H' := Aside0.mk H
      clear H
      go_wp2_with (first | ((with_reducible refine gate_callee (f := 114) rfl ?_); refine goesL_ (some 18) rfl rfl Tryd.func114 (by kernel_rfl) rfl #[.int .i64 (Go.bits .and .i64 (ji5) 1)] rfl (by (try simp only [List.map_toArray, List.map_cons, List.map_nil]); first | done | (simp only [hji5]; rfl) | rfl | (simp only [List.length_drop, List.length_take]; rfl)) ?_; (with_reducible refine (spec_l1Num.calls k1 (Go.bits .and .i64 (ji5) 1) t135 _ A6.out).mono ?_); rintro e w8 ⟨rfl, hb⟩; refine ⟨_, rfl, ?_⟩; have n0_ := Aside0.mk (below_step (by repeat (first | (with_reducible first | exact HB.out | apply below_alloc | apply pw_below_drewN | apply below_drew1) | exact HB.out)) hb); clear HB; have HB := n0_; clear n0_; (try clear hb); (try clear hb2); (try clear hk); (try clear hi)))
      go_roundg k1
      case measure => have := HK1.out; omega
      case rel => exact ⟨(x5_1 ++ t135), (wrap64 (x6_1 - 1)), (by first | rfl | (simp; done) | (simp [*]; done)), (by first | rfl | (simp; done) | (simp [*]; done)), H', ⟨by have := HK1.out; omega⟩, ⟨by repeat (first | (with_reducible first | exact HB.out | apply below_alloc | apply pw_below_drewN | apply below_drew1) | exact HB.out)⟩⟩
     ·rw [if_neg c7] at H
      exact absurd H (by simp)
    ·rw [if_neg c4] at H
     exact absurd H (by simp)
   ·rw [if_neg c3] at H
    have c3b0 : decide (0 ≤ x6_1) = false := decide_eq_false c3
    clear c3
    obtain rfl := Option.some.inj H
    go_wp2
    go_ret
    exact ⟨by first | rfl | (simp [errW_none, errW_some] <;> rfl) | (simp [*, errW_none, errW_some] <;> rfl), by repeat (first | (with_reducible first | exact HB.out | apply below_alloc | apply pw_below_drewN | apply below_drew1) | exact HB.out)⟩

/-! ### spec_laNumber: function 84 -/
-- by hand (wip/ext/laNumber.tpl)
def spec_laNumber.f (a0 : ByteArray) : Option Int := if a0.size ≤ 60 ∧ a0.data.toList.all isBit = true then some (numL a0.data.toList : Int) else none
set_option maxHeartbeats 1000000 in
set_option maxRecDepth 100000 in
theorem spec_laNumber.calls (a0 : ByteArray) (r : Int) (w : World) (h : spec_laNumber.f a0 = some r) :
    Calls Tryd.prog 84 #[.string a0] w fun e w' => e = .returned (.int .i64 r) ∧ Below w.heap.size w w' := by
  unfold spec_laNumber.f at h
  split at h
  case isFalse => cases h
  case isTrue hc =>
  obtain rfl := Option.some.inj h
  clear h
  have HC := Aside0.mk hc
  clear hc
  have hus := Tryd.underlying9
  have HZ := Aside0.mk (show a0.size = a0.data.toList.length from Lib.size_eq a0)
  go_enter Tryd.func84, Tryd.ntmps84
  go_wp2
  have HHI := Aside0.mk (World.iter_heap w a0 0)
  have HHB := Aside0.mk (show Below w.heap.size w (w.iter a0 0) from below_alloc (Below.refl _ _) _)
  obtain ⟨K, hK⟩ : ∃ K, K = w.heap.size := ⟨_, rfl⟩
  rw [← hK] at HHI ⊢
  have HLT := Aside0.mk (show w.heap.size ≤ K by omega)
  generalize w.iter a0 0 = W0 at HHI HHB ⊢
  have HKE := Aside0.mk hK
  clear hK
  go_loopg [3] a0.size (fun gg v3 w' => ∃ pos : Nat, pos + gg = a0.size ∧ v3 = .int .i64 (numL (a0.data.toList.take pos) : Nat) ∧ Aside0 (w'.heap[K]? = some (.stringIter a0 pos)) ∧ Aside0 (Below w.heap.size w w'))
  case atStart => exact ⟨0, by omega, rfl, HHI, HHB⟩
  case round =>
    clear HHI HHB
    obtain ⟨pos, hps, rfl, HI, HB⟩ := hrel
    by_cases hp : pos < a0.size
    · have hpl : pos < a0.data.toList.length := by rw [← HZ.out]; exact hp
      have hnext : ∀ ty, (Instr.next (.pointer (some ⟨K, 0, none⟩)) true ty).run Tryd.prog wr = _ := fun ty => Lib.run_next_any_at wr K a0 pos ty HI.out hp
      have hk1 := Lib.iterAt_heap wr K a0 pos (pos + (Utf8.decode a0 pos).2) HI.out
      have hb1 := Lib.below_iterAt HB.out HLT.out a0 (pos + (Utf8.decode a0 pos).2)
      have hbit : isBit a0.data.toList[pos] = true := List.all_eq_true.1 HC.out.2 _ (List.getElem_mem hpl)
      rw [decode_bit a0 pos hp hpl hbit] at hk1 hb1 hnext
      have eb := bt_nat a0 pos hpl
      have htk : numL (a0.data.toList.take (pos + 1)) = 2 * numL (a0.data.toList.take pos) + (if a0.data.toList[pos] = 49 then 1 else 0) := by rw [List.take_succ_eq_append_getElem hpl, numL_snoc]
      have hlt := numL_lt pos (a0.data.toList.take pos) (by rw [List.length_take]; omega)
      have hpw : 2 ^ pos ≤ 2 ^ 60 := Nat.pow_le_pow_right (by omega) (by have := HC.out.1; omega)
      obtain ⟨b, hb⟩ : ∃ b, b = a0.data.toList[pos] := ⟨_, rfl⟩
      rw [← hb] at hbit eb htk
      obtain ⟨n, hn⟩ : ∃ n, n = numL (a0.data.toList.take pos) := ⟨_, rfl⟩
      rw [← hn] at htk hlt ⊢
      have hnb : n < 2 ^ 60 := Nat.lt_of_lt_of_le hlt hpw
      have HK1 := Aside0.mk hk1
      have HB1 := Aside0.mk hb1
      have HTK := Aside0.mk htk
      have HNB := Aside0.mk hnb
      clear hk1 hb1 HI HB hb hn htk hlt hpw hnb
      generalize wr.iterAt K a0 (pos + 1) = W1 at hnext HK1 HB1
      generalize (Utf8.decode a0 pos).1 = rn at hnext
      have p6 : (0 ≤ (pos : Int)) = True := eq_true (by omega)
      have q6 : ((pos : Int) < (a0.size : Int)) = True := eq_true (by omega)
      have hx6 : ((a0[pos]'hp).toNat : Int) = bt a0 pos := by have := bt_at a0 (pos : Int) (by simpa using hp); simpa using this
      have hbb : b = 48 ∨ b = 49 := by simpa [isBit] using hbit
      have hw1 : wrap64 (2 * (n : Int)) = 2 * (n : Int) := w64 (by have := HNB.out; omega) (by have := HNB.out; omega)
      clear hbit
      rcases hbb with rfl | rfl
      · have eb8 : bt a0 pos = 48 := eb
        clear eb
        go_wp2
        go_roundg (a0.size - (pos + 1))
        case measure => omega
        case rel => exact ⟨pos + 1, by omega, congrArg (Value.int .i64) (by rw [HTK.out]; simp only [hw1]; simp), HK1, HB1⟩
      · have eb8 : bt a0 pos = 49 := eb
        clear eb
        go_wp2
        go_roundg (a0.size - (pos + 1))
        case measure => omega
        case rel => exact ⟨pos + 1, by omega, congrArg (Value.int .i64) (by rw [HTK.out]; have := HNB.out; rw [w64 (by omega) (by omega)]; simp), HK1, HB1⟩
    · have hnext : ∀ ty, (Instr.next (.pointer (some ⟨K, 0, none⟩)) true ty).run Tryd.prog wr = _ := fun ty => Lib.run_next_end_at wr K a0 pos ty HI.out hp
      go_wp2
      go_ret
      exact ⟨ret_int (by rw [List.take_of_length_le (by have := HZ.out; omega)]), HB.out⟩

/-! ### impl_meets: function 117 -/
def impl_meets.l0 : Nat → ByteArray → ByteArray → Int → Int → Option (Bool)
 | 0, _, _, _, _ => none
 | k + 1, x0, x1, x7, x8 => if x8 < x7 then (if 0 ≤ x8 then (if x8 < (x0.size : Int) then (if (bt x0 x8) = 63 then (impl_meets.l0 k x0 x1 x7 (wrap64 (x8 + 1))) else (if x8 < (x1.size : Int) then (if (bt x0 x8) = (bt x1 x8) then (impl_meets.l0 k x0 x1 x7 (wrap64 (x8 + 1))) else (some false)) else (none))) else (none)) else (none)) else (some true)
def impl_meets.f (k : Nat) (a0 : ByteArray) (a1 : ByteArray) : Option (Bool) := impl_meets.l0 k a0 a1 (a0.size : Int) 0
theorem impl_meets.mono_l : ∀ k, (∀ y0 y1 y2 y3, LeO (impl_meets.l0 k y0 y1 y2 y3) (impl_meets.l0 (k + 1) y0 y1 y2 y3))
 | 0 => fun _ _ _ _ r h => by simp [impl_meets.l0] at h
 | k + 1 => by
  have ih0 := impl_meets.mono_l k
  ·intro y0 y1 y2 y3
   unfold impl_meets.l0
   repeat' first
   | (with_reducible exact ih0 _ _ _ _)
   | (with_reducible exact LeO.refl _)
   | (with_reducible exact LeO.none _)
   | (with_reducible refine LeO.ite ?_ ?_)
   | (with_reducible refine LeO.bind ?_ (fun _ => ?_))
   | exact ih0 _ _ _ _
   | exact LeO.none _
   | refine LeO.ite ?_ ?_
   | refine LeO.bind ?_ (fun _ => ?_)
theorem impl_meets.mono : ∀ a0 a1 k, LeO (impl_meets.f k a0 a1) (impl_meets.f (k + 1) a0 a1) := by
 intro a0 a1 k
 have ih0 := impl_meets.mono_l k
 unfold impl_meets.f
 repeat' first
   | (with_reducible exact ih0 _ _ _ _)
   | (with_reducible exact LeO.refl _)
   | (with_reducible exact LeO.none _)
   | (with_reducible refine LeO.ite ?_ ?_)
   | (with_reducible refine LeO.bind ?_ (fun _ => ?_))
   | exact ih0 _ _ _ _
   | exact LeO.none _
   | refine LeO.ite ?_ ?_
   | refine LeO.bind ?_ (fun _ => ?_)
set_option maxHeartbeats 8000000 in
set_option maxRecDepth 100000 in
theorem impl_meets.calls (k : Nat) (a0 : ByteArray) (a1 : ByteArray) (r : Bool) (w : World) (h : impl_meets.f k a0 a1 = some r) :
  Calls Tryd.prog 117 #[.string a0, .string a1] w fun e w' => e = .returned (.bool r) ∧ Drawn0 w w' := by
 have H : (impl_meets.l0 k a0 a1 (a0.size : Int) 0) = some r := h
 clear h
 have H' := Aside0.mk H
 clear H
 go_enter Tryd.func117, Tryd.ntmps117
 go_wp2
 repeat (go_quiet (fail); try go_wp2)
 go_loopg [8] k (fun kq v8 w' => ∃ (x8_1 : Int), v8 = .int .i64 x8_1 ∧ Aside0 (impl_meets.l0 kq a0 a1 (a0.size : Int) x8_1 = some r) ∧ Aside0 (kq ≤ k) ∧ Drawn0 w w')
 case atStart => exact ⟨(0), (by first | rfl | (simp; done) | (simp [*]; done)), H', ⟨Nat.le_refl _⟩, by repeat (first | exact Drawn0.refl _ | apply Drawn0.step)⟩
 case round =>
  clear H'
  try clear c1
  try clear p2
  obtain ⟨x8_1, rfl, HA, HK1, ⟨m1, rfl⟩⟩ := hrel
  cases gk with
  | zero => exact absurd HA.out (by simp [impl_meets.l0])
  | succ k1 =>
   have H := HA.out
   clear HA
   simp only [impl_meets.l0] at H
   by_cases c3 : x8_1 < (a0.size : Int)
   ·rw [if_pos c3] at H
    have c3b0 : decide (x8_1 < (a0.size : Int)) = true := decide_eq_true c3
    clear c3
    by_cases c4 : 0 ≤ x8_1
    ·rw [if_pos c4] at H
     have c4b0 : decide (0 ≤ x8_1) = true := decide_eq_true c4
     clear c4
     by_cases c5 : x8_1 < (a0.size : Int)
     ·rw [if_pos c5] at H
      have c5b0 : decide (x8_1 < (a0.size : Int)) = true := decide_eq_true c5
      clear c5
      by_cases c7 : (bt a0 x8_1) = 63
      ·rw [if_pos c7] at H
       have c7b0 : ((bt a0 x8_1) == 63) = true := beq_iff_eq.mpr c7
       have c7b1 : ((bt a0 x8_1) != 63) = false := bne_eq_false_iff_eq.mpr c7
       clear c7
       have H' := Aside0.mk H
       clear H
       have p6 : 0 ≤ (x8_1 : Int) := of_decide_eq_true (by first | (with_reducible assumption) | assumption)
       have q6 : x8_1 < (a0.size : Int) := of_decide_eq_true (by first | (with_reducible assumption) | assumption)
       have hx6 := bt_at a0 x8_1
       replace p6 := eq_true p6
       replace q6 := eq_true q6
       go_wp2
       repeat (go_quiet (fail); try go_wp2)
       go_roundg k1
       case measure => have := HK1.out; omega
       case rel => exact ⟨(wrap64 (x8_1 + 1)), (by first | rfl | (simp; done) | (simp [*]; done)), H', ⟨by have := HK1.out; omega⟩, by repeat (first | exact Drawn0.refl _ | apply Drawn0.step)⟩
      ·rw [if_neg c7] at H
       have c7b0 : ((bt a0 x8_1) == 63) = false := beq_eq_false_iff_ne.mpr c7
       have c7b1 : ((bt a0 x8_1) != 63) = true := bne_iff_ne.mpr c7
       by_cases c9 : x8_1 < (a1.size : Int)
       ·rw [if_pos c9] at H
        have c9b0 : decide (x8_1 < (a1.size : Int)) = true := decide_eq_true c9
        clear c9
        by_cases c11 : (bt a0 x8_1) = (bt a1 x8_1)
        ·rw [if_pos c11] at H
         have c11b0 : ((bt a0 x8_1) == (bt a1 x8_1)) = true := beq_iff_eq.mpr c11
         have c11b1 : ((bt a0 x8_1) != (bt a1 x8_1)) = false := bne_eq_false_iff_eq.mpr c11
         clear c11
         have H' := Aside0.mk H
         clear H
         have p6 : 0 ≤ (x8_1 : Int) := of_decide_eq_true (by first | (with_reducible assumption) | assumption)
         have q6 : x8_1 < (a0.size : Int) := of_decide_eq_true (by first | (with_reducible assumption) | assumption)
         have hx6 := bt_at a0 x8_1
         replace p6 := eq_true p6
         replace q6 := eq_true q6
         have p8 : 0 ≤ (x8_1 : Int) := of_decide_eq_true (by first | (with_reducible assumption) | assumption)
         have q8 : x8_1 < (a0.size : Int) := of_decide_eq_true (by first | (with_reducible assumption) | assumption)
         have hx8 := bt_at a0 x8_1
         replace p8 := eq_true p8
         replace q8 := eq_true q8
         have p10 : 0 ≤ (x8_1 : Int) := of_decide_eq_true (by first | (with_reducible assumption) | assumption)
         have q10 : x8_1 < (a1.size : Int) := of_decide_eq_true (by first | (with_reducible assumption) | assumption)
         have hx10 := bt_at a1 x8_1
         replace p10 := eq_true p10
         replace q10 := eq_true q10
         go_wp2
         repeat (go_quiet (fail); try go_wp2)
         go_roundg k1
         case measure => have := HK1.out; omega
         case rel => exact ⟨(wrap64 (x8_1 + 1)), (by first | rfl | (simp; done) | (simp [*]; done)), H', ⟨by have := HK1.out; omega⟩, by repeat (first | exact Drawn0.refl _ | apply Drawn0.step)⟩
        ·rw [if_neg c11] at H
         have c11b0 : ((bt a0 x8_1) == (bt a1 x8_1)) = false := beq_eq_false_iff_ne.mpr c11
         have c11b1 : ((bt a0 x8_1) != (bt a1 x8_1)) = true := bne_iff_ne.mpr c11
         obtain rfl := Option.some.inj H
         have p6 : 0 ≤ (x8_1 : Int) := of_decide_eq_true (by first | (with_reducible assumption) | assumption)
         have q6 : x8_1 < (a0.size : Int) := of_decide_eq_true (by first | (with_reducible assumption) | assumption)
         have hx6 := bt_at a0 x8_1
         replace p6 := eq_true p6
         replace q6 := eq_true q6
         have p8 : 0 ≤ (x8_1 : Int) := of_decide_eq_true (by first | (with_reducible assumption) | assumption)
         have q8 : x8_1 < (a0.size : Int) := of_decide_eq_true (by first | (with_reducible assumption) | assumption)
         have hx8 := bt_at a0 x8_1
         replace p8 := eq_true p8
         replace q8 := eq_true q8
         have p10 : 0 ≤ (x8_1 : Int) := of_decide_eq_true (by first | (with_reducible assumption) | assumption)
         have q10 : x8_1 < (a1.size : Int) := of_decide_eq_true (by first | (with_reducible assumption) | assumption)
         have hx10 := bt_at a1 x8_1
         replace p10 := eq_true p10
         replace q10 := eq_true q10
         go_wp2
         repeat (go_quiet (fail); try go_wp2)
         go_ret
         exact ⟨by first | rfl | (simp; done) | (simp [*]; done), by repeat (first | exact Drawn0.refl _ | apply Drawn0.step)⟩
       ·rw [if_neg c9] at H
        exact absurd H (by simp)
     ·rw [if_neg c5] at H
      exact absurd H (by simp)
    ·rw [if_neg c4] at H
     exact absurd H (by simp)
   ·rw [if_neg c3] at H
    have c3b0 : decide (x8_1 < (a0.size : Int)) = false := decide_eq_false c3
    clear c3
    obtain rfl := Option.some.inj H
    go_wp2
    repeat (go_quiet (fail); try go_wp2)
    go_ret
    exact ⟨by first | rfl | (simp; done) | (simp [*]; done), by repeat (first | exact Drawn0.refl _ | apply Drawn0.step)⟩

end Go.Proofs.YtepaleeepbjkbaaDoor.PStillStates
