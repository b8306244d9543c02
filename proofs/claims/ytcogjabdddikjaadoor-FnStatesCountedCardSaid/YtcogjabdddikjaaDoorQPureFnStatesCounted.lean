/- States with so many rings on are counted, added and found as told, and means over numbers of states are as told: for all texts and numbers. No condition. -/
import Derived.Test.YtcogjabdddikjaaDoorQPSCntz
namespace Go.Proofs.YtcogjabdddikjaaDoor.Pure
open Go.RowKit Go.Proofs.YtcogjabdddikjaaDoor.PSCnt Go.Proofs.YtcogjabdddikjaaDoorW.PrintWords Go.Proofs.YtcogjabdddikjaaDoorW.PrintLast Go.Proofs.YtcogjabdddikjaaDoorW.PrintMore
set_option linter.unusedVariables false
set_option linter.unusedSimpArgs false
theorem u8_wf {a : Int} (h : (Lit.int .u8 a).wf = true) : 0 ≤ a ∧ a ≤ 255 := by
  have h2 : IntKind.u8.min ≤ a ∧ a ≤ IntKind.u8.max := by simpa [Lit.wf] using h
  have e1 : IntKind.u8.min = 0 := by decide
  have e2 : IntKind.u8.max = 255 := by decide
  omega
theorem bet_rd (L x y d i : Nat) (h : i < d) : rdOf ByteArray.empty (betL L x y d) (i : Int) = stB L (stepN x y i) := by simp [rdOf, betL, h]
theorem bet_len (L x y d : Nat) : (betL L x y d).length = d := by simp [betL]
theorem bet_sum (L x y : Nat) : sumU (fun j => pcN L (stepN x y j)) (dist x y + 1) = onSum L (lowN x y) (dist x y + 1) := by
  by_cases c : x ≤ y
  · exact sumU_congr _ _ _ (fun j _ => by unfold stepN lowN; rw [if_pos c, if_pos c])
  · unfold onSum
    rw [← sumU_rev (fun j => pcN L (lowN x y + j)) (dist x y)]
    exact sumU_congr _ _ _ (fun j hj => by
      have e : stepN x y j = lowN x y + (dist x y - j) := by
        revert hj; unfold stepN lowN dist; rw [if_neg c, if_neg c, if_neg c]; omega
      rw [e])
theorem sum_ev (L x y : Nat) (h1 : 1 ≤ L) (h : L ≤ 20) (hd : dist x y ≤ 4095) (p q : Nat) (he : onSum L (lowN x y) (dist x y + 1) * q = p * (dist x y + 1)) : ∀ (e i : Nat), i + e = dist x y + 1 →
    Ev (fun k => laws_FnStatesCounted.l2 k (p : Int) (q : Int) (betL L x y (dist x y + 1)) (sumU (fun j => pcN L (stepN x y j)) i : Int) (betL L x y (dist x y + 1)) ((dist x y + 1 : Nat) : Int) (i : Int)) true := by
  intro e
  induction e with
  | zero =>
    intro i hi
    obtain rfl : i = dist x y + 1 := by omega
    refine Ev.last fun k => ?_
    have e1 : ((onSum L (lowN x y) (dist x y + 1) : Nat) : Int) * (q : Int) = (p : Int) * ((dist x y + 1 : Nat) : Int) := by rw [← Int.natCast_mul, he, Int.natCast_mul]
    rw [laws_FnStatesCounted.l2, if_neg (by omega), bet_sum, bet_len, e1, beq_self_eq_true]
  | succ e ih =>
    intro i hi
    have hb := sumU_le (fun j => pcN L (stepN x y j)) L (fun j => pcN_le L _) (i + 1)
    have hb2 : L * (i + 1) ≤ 20 * 4096 := Nat.mul_le_mul h (by omega)
    have hs : sumU (fun j => pcN L (stepN x y j)) (i + 1) = sumU (fun j => pcN L (stepN x y j)) i + pcN L (stepN x y i) := rfl
    refine Ev.next ⟨0, fun k _ => ?_⟩ (ih (i + 1) (by omega))
    rw [laws_FnStatesCounted.l2, if_pos (by omega), if_pos (by omega), bet_len, if_pos (by omega), bet_rd _ _ _ _ _ (by omega), countOn_st _ _ h1 h, Option.bind_some, if_pos rfl]
    dsimp only
    rw [w64 (by omega) (by omega), w64 (by omega) (by omega), hs]
    rfl
theorem tail_ev (a b : ByteArray) (ha : a.size ≤ 1048576) (hb : b.size ≤ 1048576) : Ev (fun k => laws_FnStatesCounted.j7 k a b (alongR a b).1 (alongR a b).2.1 (alongR a b).2.2) true := by
  by_cases c : twoB a b = true ∧ a.size ≤ 12
  · obtain ⟨f1, f2, f3, f4, f5, f6⟩ := along_facts c.1 c.2
    obtain ⟨g, p, q, hg, e1, e2, hq, e3⟩ := low_facts (alongS a b) (dist (numS a) (numS b) + 1) (by omega)
    have e : alongR a b = ((p : Int), (q : Int), true) := by unfold alongR; rw [if_pos c, e3]
    obtain ⟨K, hK⟩ := between_ev a b ha hb
    rw [e]
    by_cases d : dist (numS a) (numS b) + 1 ≤ 2000
    · have eb : betR a b = (betL a.size (numS a) (numS b) (dist (numS a) (numS b) + 1), true) := by unfold betR; rw [if_pos ⟨c.1, d⟩]
      rw [eb] at hK
      have he : onSum a.size (lowN (numS a) (numS b)) (dist (numS a) (numS b) + 1) * q = p * (dist (numS a) (numS b) + 1) := by
        have e1 : onSum a.size (lowN (numS a) (numS b)) (dist (numS a) (numS b) + 1) = g * p := e1
        rw [e1, e2]
        grind
      refine Ev.next ⟨K, fun k hk => ?_⟩ (sum_ev a.size (numS a) (numS b) f1 (by omega) f6 p q he (dist (numS a) (numS b) + 1) 0 (by omega))
      have hK := hK k hk
      simp only at hK
      rw [laws_FnStatesCounted.j7, if_pos rfl, hK, Option.bind_some, if_pos rfl]
      dsimp only
      rw [bet_len]
      rfl
    · have eb : betR a b = ([], false) := by unfold betR; rw [if_neg (fun h => d h.2)]
      rw [eb] at hK
      refine Ev.next (f := fun _ => some true) ⟨K, fun k hk => ?_⟩ (Ev.now true)
      have hK := hK k hk
      simp only at hK
      rw [laws_FnStatesCounted.j7, if_pos rfl, hK, Option.bind_some, if_neg (by simp)]
  · have e : alongR a b = (0, 0, false) := by unfold alongR; rw [if_neg c]
    rw [e]
    exact Ev.last fun k => by rw [laws_FnStatesCounted.j7, if_neg (by simp)]
theorem means_ev (n : Int) (a b : ByteArray) (ha : a.size ≤ 1048576) (hb : b.size ≤ 1048576) :
    Ev (fun k => laws_FnStatesCounted.j6 k n (mnR n).1 (mnR n).2.1 (mnR n).2.2 (mpR n).1 (mpR n).2.1 a b (alongR a b).1 (alongR a b).2.1 (alongR a b).2.2 false) true := by
  have ht := tail_ev a b ha hb
  cases c : inB n 1 12 with
  | false =>
    have e : mnR n = (0, 0, false) := by unfold mnR; rw [c]; rfl
    refine Ev.next ⟨0, fun k _ => ?_⟩ ht
    rw [laws_FnStatesCounted.j6, if_neg (by simp), e, if_neg (by simp)]
  | true =>
    have h1 := inB_lo c
    have h2 := inB_hi c
    obtain ⟨q, rfl⟩ : ∃ q : Nat, n = q := ⟨n.toNat, by omega⟩
    obtain ⟨p1, p2⟩ := pow12 (n := q) (by omega)
    obtain ⟨g, p, r, hg, e1, e2, hr, e3⟩ := low_facts (2 ^ q * 2 ^ q - 1) (3 * 2 ^ q) (by omega)
    have e : mnR (q : Int) = (((2 ^ q - 1 : Nat) : Int), 2, true) := by unfold mnR; rw [if_pos c, Int.toNat_natCast]
    have e4 : mpR (q : Int) = ((p : Int), (r : Int), true) := by unfold mpR; rw [if_pos c, Int.toNat_natCast, e3]
    obtain ⟨w1, _⟩ := pair_words q (by omega)
    have hm : 2 ^ q * 2 ^ q ≤ 4096 * 4096 := Nat.mul_le_mul p2 p2
    have hp : p ≤ 4096 * 4096 := by
      have : p ≤ g * p := Nat.le_mul_of_pos_left p hg
      omega
    have ew : wrap64 (((2 ^ q : Nat) : Int) - 1) = ((2 ^ q - 1 : Nat) : Int) := by rw [w64 (by omega) (by omega)]; omega
    have e5 : (p : Int) * 3 * ((2 ^ q : Nat) : Int) = (r : Int) * ((2 ^ q * 2 ^ q - 1 : Nat) : Int) := by
      have e6 : p * 3 * 2 ^ q = r * (2 ^ q * 2 ^ q - 1) := by
        rw [e1, Nat.mul_assoc, e2]
        grind
      have := congrArg (fun z : Nat => (z : Int)) e6
      simp only [Int.natCast_mul] at this
      rw [Int.natCast_mul] at *
      exact this
    refine Ev.next ⟨0, fun k _ => ?_⟩ ht
    rw [laws_FnStatesCounted.j6, if_neg (by simp), e, e4, if_pos rfl, if_pos (by omega), shl_pow2 (by omega)]
    dsimp only
    rw [ew, if_pos (by rw [Int.mul_comm]), w1, w64 (a := (p : Int) * 3) (by omega) (by omega), e5, if_pos rfl]
theorem six_ev (x : List Int) (hx : okL x) : Ev (fun k => laws_FnStatesCounted.j5 k x) true := by
  obtain ⟨n, en⟩ := drawMeanN_ok hx
  obtain ⟨a, b, ⟨K0, h0⟩, aa, ab⟩ := drawAlong_ok hx
  have ha : a.size ≤ 1048576 := by have := aa.1; omega
  have hb : b.size ≤ 1048576 := by have := ab.1; omega
  obtain ⟨K1, h1⟩ := implMeanN_ev n
  obtain ⟨K3, h3⟩ := implPairs_ev n
  obtain ⟨K4, h4⟩ := specPairs_ev n
  obtain ⟨K5, h5⟩ := implAlong_ev a b ha hb
  obtain ⟨K6, h6⟩ := specAlong_ev a b
  obtain ⟨K7, h7⟩ := means_ev n a b ha hb
  have e1 : (mpR n).2.2 = (mnR n).2.2 := by unfold mpR mnR; by_cases c : inB n 1 12 = true <;> simp [c]
  refine ⟨K0 + K1 + K3 + K4 + K5 + K6 + K7 + 1, fun k hk => ?_⟩
  obtain ⟨k, rfl⟩ : ∃ z, k = z + 1 := ⟨k - 1, by omega⟩
  have h0 := h0 k (by omega)
  have h1 := h1 k (by omega)
  have h3 := h3 k (by omega)
  have h4 := h4 k (by omega)
  have h5 := h5 k (by omega)
  have h6 := h6 k (by omega)
  have h7 := h7 k (by omega)
  simp only at h0 h1 h3 h4 h5 h6 h7
  dsimp only
  rw [laws_FnStatesCounted.j5, en, Option.bind_some, h1, Option.bind_some, specMeanN_eq, Option.bind_some, h3, Option.bind_some, h4, Option.bind_some, h0, Option.bind_some]
  dsimp only
  rw [h5, Option.bind_some, h6, Option.bind_some, bne_self_eq_false, if_neg (by simp), if_pos rfl, if_pos rfl, bne_self_eq_false, if_neg (by simp), if_pos rfl, if_pos rfl, e1, bne_self_eq_false, if_neg (by simp), bne_self_eq_false, if_neg (by simp), if_pos rfl, bne_self_eq_false]
  exact h7
def befN (R M i : Nat) : Int := if i = 0 then -1 else (((onL R M).getD (i - 1) 0 : Nat) : Int)
theorem list_ev (R M : Nat) (h1 : 1 ≤ R) (h2 : R ≤ 12) (h3 : M ≤ R) (x : List Int) (hk : Ev (fun k => laws_FnStatesCounted.j5 k x) true) : ∀ (e i : Nat), i + e = pasc R M →
    Ev (fun k => laws_FnStatesCounted.l1 k x (R : Int) (M : Int) ((onL R M).map (stB R)) (pasc R M : Int) (stB R ((onL R M).getD 0 0)) (stB R ((onL R M).getD (pasc R M - 1) 0)) ((onL R M).sum : Int) (((onL R M).take i).sum : Int) (befN R M i) ((onL R M).map (stB R)) (pasc R M : Int) (i : Int)) true := by
  have hlen : ((onL R M).map (stB R)).length = pasc R M := by rw [List.length_map, onL_len]
  obtain ⟨p1, p2⟩ := pasc_le h2 h3
  intro e
  induction e with
  | zero =>
    intro i hi
    obtain rfl : i = pasc R M := by omega
    have ew : wrap64 ((pasc R M : Int) - 1) = ((pasc R M - 1 : Nat) : Int) := by rw [w64 (by omega) (by omega)]; omega
    have et : (onL R M).take (pasc R M) = onL R M := List.take_of_length_le (by rw [onL_len]; exact Nat.le_refl _)
    refine Ev.next ⟨0, fun k _ => ?_⟩ hk
    rw [laws_FnStatesCounted.l1, if_neg (by omega), hlen, if_pos rfl, et, if_pos rfl, if_pos (by omega), show (0 : Int) = ((0 : Nat) : Int) from rfl, onL_rd 0 (by omega), if_pos rfl, ew, if_pos (by omega), if_pos (by omega), onL_rd _ (by omega), if_pos rfl]
  | succ e ih =>
    intro i hi
    obtain ⟨q1, q2⟩ := onL_at (r := R) (m := M) i (by omega)
    obtain ⟨K, hK⟩ := numberOf_st R ((onL R M).getD i 0) h1 (by omega) q1
    have hb := onL_sumle h2 h3 (i + 1)
    have hs := onL_sum (r := R) (m := M) h2 i (by omega)
    have hbef : ¬ (((onL R M).getD i 0 : Nat) : Int) ≤ befN R M i := by
      unfold befN
      by_cases c : i = 0
      · rw [if_pos c]; omega
      · have := onL_lt (r := R) (m := M) (i - 1) i (by omega) (by omega)
        rw [if_neg c]; omega
    have hnext : befN R M (i + 1) = (((onL R M).getD i 0 : Nat) : Int) := by unfold befN; rw [if_neg (by omega), Nat.add_sub_cancel]
    have hih := ih (i + 1) (by omega)
    rw [hnext, hs] at hih
    refine Ev.next ⟨K, fun k hk => ?_⟩ hih
    have hK := hK k hk
    simp only at hK
    rw [laws_FnStatesCounted.l1, if_pos (by omega), if_pos (by omega), hlen, if_pos (by omega), onL_rd i (by omega), hK, Option.bind_some, countOn_st _ _ h1 (by omega), Option.bind_some, if_pos rfl, if_neg hbef, if_pos rfl, q2, if_pos rfl, stB_size, if_pos rfl]
    dsimp only
    rw [w64 (by omega) (by omega), w64 (by omega) (by omega)]
    rfl
theorem four_ev (r m : Int) (x : List Int) (hx : okL x) :
    Ev (fun k => laws_FnStatesCounted.j3 k x r m (statesR r m).1 (statesR r m).2 (countR r m).1 (leastR r m).1 (greatR r m).1 (sumR r m).1) true := by
  have h6 := six_ev x hx
  by_cases c : onB r m = true ∧ pasc r.toNat m.toNat ≤ 100
  · obtain ⟨c1, c2⟩ := c
    obtain ⟨R, M, rfl, rfl, h1, h2, h3⟩ := onB_facts c1
    rw [Int.toNat_natCast, Int.toNat_natCast] at c2
    have e1 : statesR (R : Int) (M : Int) = ((onL R M).map (stB R), true) := by unfold statesR; rw [if_pos ⟨c1, by simpa using c2⟩]; simp
    have e2 : countR (R : Int) (M : Int) = ((pasc R M : Int), true) := by unfold countR; rw [if_pos c1]; simp
    have e3 : leastR (R : Int) (M : Int) = (stB R ((onL R M).getD 0 0), true) := by unfold leastR; rw [if_pos c1]; simp
    have e4 : greatR (R : Int) (M : Int) = (stB R ((onL R M).getD (pasc R M - 1) 0), true) := by unfold greatR; rw [if_pos c1]; simp
    have e5 : sumR (R : Int) (M : Int) = (((onL R M).sum : Int), true) := by unfold sumR; rw [if_pos c1]; simp
    have hlen : ((onL R M).map (stB R)).length = pasc R M := by rw [List.length_map, onL_len]
    rw [e1, e2, e3, e4, e5]
    refine Ev.next ⟨0, fun k _ => ?_⟩ (list_ev R M h1 h2 h3 x h6 (pasc R M) 0 (by omega))
    rw [laws_FnStatesCounted.j3, if_pos rfl]
    dsimp only
    rw [hlen]
    rfl
  · have e1 : statesR r m = ([], false) := by unfold statesR; rw [if_neg c]
    rw [e1]
    refine Ev.next ⟨0, fun k _ => ?_⟩ h6
    rw [laws_FnStatesCounted.j3, if_neg (by simp)]
theorem counts_ev (R : Nat) (h1 : 1 ≤ R) (h2 : R ≤ 12) (m : Int) (x : List Int) (x11 : List ByteArray) (x12 : Bool) (x15 : Int) (x19 x23 : ByteArray) (x27 : Int) (hk : Ev (fun k => laws_FnStatesCounted.j3 k x (R : Int) m x11 x12 x15 x19 x23 x27) true) : ∀ (e i : Nat), i + e = R + 1 →
    Ev (fun k => laws_FnStatesCounted.l0 k x (R : Int) m x11 x12 x15 x19 x23 x27 (((List.range i).map (pasc R)).sum : Int) (i : Int)) true := by
  have hb : ∀ i, i ≤ R + 1 → ((List.range i).map (pasc R)).sum ≤ 924 * 13 := fun i hi => by
    have := sum_le 924 ((List.range i).map (pasc R)) (fun n hn => by
      obtain ⟨j, hj, rfl⟩ := List.mem_map.1 hn
      have := List.mem_range.1 hj
      exact (pasc_le h2 (by omega)).2)
    rw [List.length_map, List.length_range] at this
    exact Nat.le_trans this (Nat.mul_le_mul_left _ (by omega))
  intro e
  induction e with
  | zero =>
    intro i hi
    obtain rfl : i = R + 1 := by omega
    refine Ev.next ⟨0, fun k _ => ?_⟩ hk
    rw [laws_FnStatesCounted.l0, if_neg (by omega), if_pos (by omega), pasc_sum R (by omega), shl_pow2 (by omega), if_pos rfl]
  | succ e ih =>
    intro i hi
    have ho : onB (R : Int) (i : Int) = true := by unfold onB; rw [inB_of (by omega) (by omega), inB_of (by omega) (by omega)]; rfl
    obtain ⟨K, hK⟩ := implCount_ev (R : Int) (i : Int)
    have e1 : countR (R : Int) (i : Int) = ((pasc R i : Int), true) := by unfold countR; rw [if_pos ho]; simp
    rw [e1] at hK
    have hs : ((List.range (i + 1)).map (pasc R)).sum = ((List.range i).map (pasc R)).sum + pasc R i := by rw [List.range_succ, List.map_append, List.sum_append]; simp
    have hb1 := hb (i + 1) (by omega)
    have hih := ih (i + 1) (by omega)
    rw [hs] at hb1 hih
    refine Ev.next ⟨K, fun k hk => ?_⟩ hih
    have hK := hK k hk
    simp only at hK
    rw [laws_FnStatesCounted.l0, if_pos (by omega), hK, Option.bind_some, if_pos rfl]
    dsimp only
    rw [w64 (by omega) (by omega), w64 (by omega) (by omega)]
    rfl
theorem one_ev (r m : Int) (x : List Int) (hx : okL x) :
    Ev (fun k => laws_FnStatesCounted.j0 k x r m (statesR r m).1 (statesR r m).2 (countR r m).1 (countR r m).2 (leastR r m).1 (greatR r m).1 (sumR r m).1 false) true := by
  have h4 := four_ev r m x hx
  cases c1 : onB r m with
  | false =>
    have e2 : countR r m = (0, false) := by unfold countR; rw [c1]; rfl
    rw [e2] at h4 ⊢
    refine Ev.next ⟨0, fun k _ => ?_⟩ h4
    rw [laws_FnStatesCounted.j0, if_neg (by simp), if_neg (by simp)]
  | true =>
    obtain ⟨R, M, rfl, rfl, h1, h2, h3⟩ := onB_facts c1
    have e2 : countR (R : Int) (M : Int) = ((pasc R M : Int), true) := by unfold countR; rw [if_pos c1]; simp
    have e3 : leastR (R : Int) (M : Int) = (stB R ((onL R M).getD 0 0), true) := by unfold leastR; rw [if_pos c1]; simp
    have e4 : greatR (R : Int) (M : Int) = (stB R ((onL R M).getD (pasc R M - 1) 0), true) := by unfold greatR; rw [if_pos c1]; simp
    obtain ⟨p1, p2⟩ := pasc_le h2 h3
    obtain ⟨q1, q2⟩ := onL_at (r := R) (m := M) 0 (by omega)
    obtain ⟨q3, q4⟩ := onL_at (r := R) (m := M) (pasc R M - 1) (by omega)
    rw [e2, e3, e4] at h4 ⊢
    have hc := counts_ev R h1 h2 (M : Int) x _ _ _ _ _ _ h4 (R + 1) 0 (by omega)
    have hle : (onL R M).getD 0 0 ≤ (onL R M).getD (pasc R M - 1) 0 ∧ ((onL R M).getD 0 0 = (onL R M).getD (pasc R M - 1) 0 ↔ pasc R M = 1) := by
      by_cases c : pasc R M = 1
      · rw [c]; simp
      · have := onL_lt (r := R) (m := M) 0 (pasc R M - 1) (by omega) (by omega)
        exact ⟨by omega, fun h => by omega, fun h => absurd h c⟩
    obtain ⟨K1, k1⟩ := numberOf_st R ((onL R M).getD 0 0) h1 (by omega) q1
    obtain ⟨K2, k2⟩ := numberOf_st R ((onL R M).getD (pasc R M - 1) 0) h1 (by omega) q3
    obtain ⟨l1, l2⟩ := hle
    have ef : (((((onL R M).getD 0 0 : Nat) : Int) == (((onL R M).getD (pasc R M - 1) 0 : Nat) : Int)) != ((pasc R M : Int) == 1)) = false := by
      rw [bne_eq_false_iff_eq, Bool.eq_iff_iff, beq_iff_eq, beq_iff_eq]
      omega
    obtain ⟨K3, k3⟩ := hc
    refine ⟨K1 + K2 + K3 + 2, fun k hk => ?_⟩
    obtain ⟨k, rfl⟩ : ∃ z, k = z + 2 := ⟨k - 2, by omega⟩
    have k1 := k1 (k + 1) (by omega)
    have k2 := k2 (k + 1) (by omega)
    have k3 := k3 k (by omega)
    simp only at k1 k2 k3
    dsimp only
    rw [laws_FnStatesCounted.j0, if_neg (by simp), if_pos rfl, k1, Option.bind_some, k2, Option.bind_some, countOn_st _ _ h1 (by omega), Option.bind_some, countOn_st _ _ h1 (by omega), Option.bind_some, if_pos rfl, if_pos rfl, if_neg (by dsimp only; omega), if_pos rfl, q2, if_pos rfl, if_pos rfl, q4, if_pos rfl, if_neg (by omega)]
    dsimp only
    rw [ef, laws_FnStatesCounted.j1, if_neg (by simp)]
    exact k3
theorem FnStatesCounted_pure (l0 : List Int) (l1 : List Int) (y0 : l0.length ≤ 9223372036854775807) (y1 : l1.length ≤ 9223372036854775807) (o0 : (∀ a ∈ l0, (Lit.int .u8 a).wf = true)) (o1 : (∀ a ∈ l1, (Lit.int .u8 a).wf = true)) : ∃ k, laws_FnStatesCounted.f k l0 l1 = some true := by
  have hbig : ∃ b, laws_big.f l0 l1 = some b ∧ (b = false → (l0.length : Int) ≤ 1048576 ∧ (l1.length : Int) ≤ wrap64 (1048576 - (l0.length : Int))) := by
    unfold laws_big.f
    by_cases c : (l0.length : Int) > 1048576
    · exact ⟨true, by rw [if_pos c], fun h => by cases h⟩
    · refine ⟨_, by rw [if_neg c], fun h => ?_⟩
      have := of_decide_eq_false h
      exact ⟨by omega, by omega⟩
  obtain ⟨b, hbig, hb⟩ := hbig
  cases b with
  | true => exact ⟨0, by unfold laws_FnStatesCounted.f; rw [hbig, Option.bind_some, if_pos rfl]⟩
  | false =>
  have cb := hb rfl
  have hw : wrap64 (1048576 - (l0.length : Int)) = 1048576 - (l0.length : Int) := w64 (by omega) (by omega)
  have h0 : okL l0 := ⟨by omega, fun a ha => by have := o0 a ha; exact u8_wf this⟩
  have hx : okL l1 := ⟨by omega, fun a ha => by have := o1 a ha; exact u8_wf this⟩
  obtain ⟨x, hxe⟩ : ∃ x, x = l1 := ⟨_, rfl⟩
  rw [← hxe] at hx
  rw [← hxe] at hbig
  rw [← hxe]
  obtain ⟨r, m, hd⟩ := drawWithOn_ok h0
  obtain ⟨K1, h1⟩ := implStates_ev r m
  obtain ⟨K2, h2⟩ := specStates_ev r m
  obtain ⟨K3, h3⟩ := implCount_ev r m
  obtain ⟨K4, h4⟩ := specCount_ev r m
  obtain ⟨K5, h5⟩ := implLeast_ev r m
  obtain ⟨K6, h6⟩ := specLeast_ev r m
  obtain ⟨K7, h7⟩ := implGreat_ev r m
  obtain ⟨K8, h8⟩ := specGreat_ev r m
  obtain ⟨K9, h9⟩ := implSum_ev r m
  obtain ⟨K10, h10⟩ := specSum_ev r m
  obtain ⟨K11, h11⟩ := yTexts_ev (statesR r m).1 (by have := statesR_len r m; omega)
  obtain ⟨K12, h12⟩ := one_ev r m x hx
  have e1 : (leastR r m).2 = (countR r m).2 := by unfold leastR countR; by_cases c : onB r m = true <;> simp [c]
  have e2 : (greatR r m).2 = (countR r m).2 := by unfold greatR countR; by_cases c : onB r m = true <;> simp [c]
  have e3 : (sumR r m).2 = (countR r m).2 := by unfold sumR countR; by_cases c : onB r m = true <;> simp [c]
  obtain ⟨k, hk⟩ : ∃ k, k = K1 + K2 + K3 + K4 + K5 + K6 + K7 + K8 + K9 + K10 + K11 + K12 + 1 := ⟨_, rfl⟩
  refine ⟨k, ?_⟩
  have h1 := h1 k (by omega)
  have h2 := h2 k (by omega)
  have h3 := h3 k (by omega)
  have h4 := h4 k (by omega)
  have h5 := h5 k (by omega)
  have h6 := h6 k (by omega)
  have h7 := h7 k (by omega)
  have h8 := h8 k (by omega)
  have h9 := h9 k (by omega)
  have h10 := h10 k (by omega)
  have h11 := h11 k (by omega)
  have h12 := h12 k (by omega)
  simp only at h1 h2 h3 h4 h5 h6 h7 h8 h9 h10 h11 h12
  rw [laws_FnStatesCounted.f, hbig, Option.bind_some, if_neg (by simp), hd, Option.bind_some]
  dsimp only
  rw [h1, Option.bind_some, h2, Option.bind_some, h3, Option.bind_some, h4, Option.bind_some, h5, Option.bind_some, h6, Option.bind_some, h7, Option.bind_some, h8, Option.bind_some, h9, Option.bind_some, h10, Option.bind_some]
  rw [e1, e2, e3]
  rw [bne_self_eq_false, if_neg (by simp), h11, Option.bind_some, if_pos rfl, bne_self_eq_false, if_neg (by simp), if_pos rfl, if_neg (by simp), if_pos rfl, if_neg (by simp), if_pos rfl, if_neg (by simp), if_pos rfl, if_neg (by simp), if_neg (by simp), if_neg (by simp)]
  cases c : onB r m with
  | false =>
    have g1 : (countR r m).2 = false := by unfold countR; rw [c]; rfl
    have g2 : (statesR r m).2 = false := by unfold statesR; rw [c]; simp
    rw [if_neg (by rw [g1]; simp), show ((statesR r m).2 != false) = false by rw [g2]; rfl]
    exact h12
  | true =>
    have g1 : (countR r m).2 = true := by unfold countR; rw [c]; rfl
    have g2 : (statesR r m).2 = decide ((countR r m).1 ≤ 100) := by
      unfold statesR countR
      rw [if_pos c]
      by_cases d : pasc r.toNat m.toNat ≤ 100
      · rw [if_pos ⟨c, d⟩, decide_eq_true (by dsimp only; omega)]
      · rw [if_neg (fun h => d h.2), decide_eq_false (by dsimp only; omega)]
    rw [if_pos g1, ← g2, bne_self_eq_false]
    exact h12
end Go.Proofs.YtcogjabdddikjaaDoor.Pure
