/- How many moves a walk at random takes on average, where it ends first and with which chance, and how many walks lead from one state to another, answer as told: for all texts and numbers. No condition. -/
import Derived.Test.YtcogjabdddikjaaDoorQPWMnz
namespace Go.Proofs.YtcogjabdddikjaaDoor.Pure
open Go.RowKit Go.Proofs.YtcogjabdddikjaaDoor.PWMn Go.Proofs.YtcogjabdddikjaaDoorW.PrintWords Go.Proofs.YtcogjabdddikjaaDoorW.PrintLast Go.Proofs.YtcogjabdddikjaaDoorW.PrintMore
set_option linter.unusedVariables false
set_option linter.unusedSimpArgs false
theorem u8_wf {a : Int} (h : (Lit.int .u8 a).wf = true) : 0 ≤ a ∧ a ≤ 255 := by
  have h2 : IntKind.u8.min ≤ a ∧ a ≤ IntKind.u8.max := by simpa [Lit.wf] using h
  have e1 : IntKind.u8.min = 0 := by decide
  have e2 : IntKind.u8.max = 255 := by decide
  omega
theorem canL_zero (s : List UInt8) : canL s 0 = true := by cases s <;> rfl
theorem two_more {a b : ByteArray} (h : twoB a b = true) : stateB a = true ∧ stateB b = true ∧ a.size = b.size ∧ a.size ≤ 20 ∧ 0 < a.size ∧ lastS b = lastS a ∧ 1 ≤ lastS a ∧ lastS a ≤ 1048575 ∧ numS a ≤ lastS a ∧ numS b ≤ lastS a ∧ 2 ^ a.size = lastS a + 1 := by
  obtain ⟨h1, h2, h3⟩ := two_facts h
  obtain ⟨s1, s2, _, _⟩ := state_facts h1
  obtain ⟨l1, l2, l3, l4, _⟩ := last_facts h1
  obtain ⟨_, _, m3, _, _⟩ := last_facts h2
  have e : lastS b = lastS a := by unfold lastS; rw [h3]
  rw [e] at m3
  exact ⟨h1, h2, h3, s2, by omega, e, l1, l2, l3, m3, l4⟩
theorem two_mv {a b : ByteArray} (h : twoB a b = true) (n : Nat) : twoB (mvS a n) b = true ∧ lastS (mvS a n) = lastS a := by
  obtain ⟨h1, h2, h3⟩ := two_facts h
  exact ⟨two_of (mvS_state h1 n) h2 (by rw [mvS_size]; exact h3), by unfold lastS; rw [mvS_size]⟩
theorem small_of {a b : ByteArray} {m : Int} (h : twoB a b = true) (h2 : a.size ≤ 12) (h3 : 0 ≤ m) (h4 : m ≤ 40) : smallB a b m = true := by
  unfold smallB
  rw [h, inB_of h3 h4, decide_eq_true (show (a.size : Int) ≤ 12 by omega)]; rfl
theorem walks_true {a b : ByteArray} {m : Nat} (h : smallB a b (m : Int) = true) : walksR a b (m : Int) = ((WF 1 (lastS a) (numS a) m (numS b) : Int), true) := by
  unfold walksR; rw [if_pos h, Int.toNat_natCast]
theorem data_ne {a : ByteArray} (h : 0 < a.size) : a.data.toList ≠ [] := by
  intro e
  rw [Lib.size_eq, e] at h
  simp at h
theorem step_l1 {a b : ByteArray} {q : Nat} (h : smallB a b ((q + 1 : Nat) : Int) = true) (W : Int) (s : Nat) (hs : s ≤ 1099511627776) (L : List Int) (hL : L.length ≤ 20) (i n : Nat) (hi : i < L.length) (hn : rd L (i : Int) = (n : Int)) (hc : canL a.data.toList n = true) (hlt : n < a.size)
    (hk : Ev (fun k => laws_FnWalksMean.l1 k a b ((q + 1 : Nat) : Int) W true ((s + WF 1 (lastS a) (numS (mvS a n)) q (numS b) : Nat) : Int) L (L.length : Int) ((i + 1 : Nat) : Int)) true) :
    Ev (fun k => laws_FnWalksMean.l1 k a b ((q + 1 : Nat) : Int) W true (s : Int) L (L.length : Int) (i : Int)) true := by
  obtain ⟨c1, c2, c3, c4⟩ := small_facts h
  obtain ⟨h1, h2, h3, h20, h0, _, l1, l2, lx, ly, _⟩ := two_more c1
  obtain ⟨e1, e2⟩ := two_mv c1 n
  have e3 : smallB (mvS a n) b (q : Int) = true := small_of e1 (by rw [mvS_size]; exact c2) (by omega) (by omega)
  obtain ⟨K, hK⟩ := implWalks_ev (mvS a n) b (q : Int) (by rw [mvS_size]; omega) (by omega)
  have hle := WF_le40 1 (lastS a) (numS (mvS a n)) q (numS b) (.inl rfl) (by omega) ly (by omega)
  rw [walks_true e3, e2] at hK
  generalize WF 1 (lastS a) (numS (mvS a n)) q (numS b) = w at hK hle hk
  refine Ev.next ⟨K, fun k hk => ?_⟩ hk
  have hK := hK k hk
  simp only at hK
  rw [laws_FnWalksMean.l1, if_pos (by omega), if_pos (by omega), if_pos (by omega), hn, implRing_eq h1 n hlt hc, Option.bind_some, show wrap64 (((q + 1 : Nat) : Int) - 1) = (q : Int) by rw [w64 (by omega) (by omega)]; omega, hK, Option.bind_some, if_pos rfl, if_pos rfl]
  dsimp only
  rw [w64 (by omega) (by omega), w64 (by omega) (by omega)]
  rfl
theorem end_l1 {a b : ByteArray} (m : Int) (W : Nat) (L : List Int) : Ev (fun k => laws_FnWalksMean.l1 k a b m (W : Int) true (W : Int) L (L.length : Int) (L.length : Int)) true :=
  Ev.last fun k => by rw [laws_FnWalksMean.l1, if_neg (by omega), if_pos rfl, if_pos rfl]
theorem moves_ev {a b : ByteArray} {m : Nat} (h : smallB a b (m : Int) = true) : Ev (fun k => laws_FnWalksMean.j8 k a b (m : Int) (WF 1 (lastS a) (numS a) m (numS b) : Int) false) true := by
  obtain ⟨c1, c2, c3, c4⟩ := small_facts h
  obtain ⟨h1, h2, h3, h20, h0, _, l1, l2, lx, ly, l4⟩ := two_more c1
  obtain ⟨s1, s2, s3, s4⟩ := state_facts h1
  cases m with
  | zero => exact Ev.last fun k => by rw [laws_FnWalksMean.j8, if_neg (by simp), if_neg (by simp)]
  | succ q =>
    have hne := data_ne h0
    have hz := Lib.size_eq a
    obtain ⟨K, hK⟩ := implMoves_ev a (by omega)
    have hm : movesR a = (movesI a, true) := by unfold movesR; rw [if_pos h1]
    rw [hm] at hK
    have hW := W_first (lastS a) q (numS a) (numS b) lx ly
    have key : Ev (fun k => laws_FnWalksMean.l1 k a b ((q + 1 : Nat) : Int) (WF 1 (lastS a) (numS a) (q + 1) (numS b) : Int) true ((0 : Nat) : Int) (movesI a) ((movesI a).length : Int) ((0 : Nat) : Int)) true := by
      by_cases c : numS a = 0 ∨ numS a + 1 = 2 ^ a.data.toList.length
      · obtain ⟨e1, e2⟩ := moves_one s3 hne c
        have e3 : movesI a = [0] := by unfold movesI; rw [e1]; rfl
        rw [e3]
        refine step_l1 h _ 0 (by omega) [0] (by simp) 0 0 (by simp) rfl (canL_zero _) h0 ?_
        have ew : 0 + WF 1 (lastS a) (numS (mvS a 0)) q (numS b) = WF 1 (lastS a) (numS a) (q + 1) (numS b) := by
          rw [hW]
          rcases e2 with ⟨x0, x1⟩ | ⟨x0, x1⟩
          · have y0 : numS a = 0 := x0
            have y1 : numS (mvS a 0) = 1 := x1
            rw [y0, y1, if_pos (by omega), if_neg (by omega), Nat.zero_add, Nat.zero_add, Nat.add_zero]
          · have y1 : numS (mvS a 0) = numS a - 1 := by have : numS (mvS a 0) + 1 = numS a := x1; omega
            have x0 : 0 < numS a := x0
            rw [← hz] at c
            rw [y1, if_neg (by omega), if_pos x0]
        rw [ew]
        exact end_l1 _ _ [0]
      · have hl2 : 2 ^ a.data.toList.length = lastS a + 1 := by rw [← hz]; exact l4
        have x0 : 0 < numS a := by omega
        have x1 : numS a < lastS a := by omega
        obtain ⟨n, n0, n1, e1, e2, e4⟩ := moves_two s3 hne x0 (show numS a + 1 < _ by omega)
        have e3 : movesI a = [0, (n : Int)] := by unfold movesI; rw [e1]; rfl
        rw [e3]
        have b0 := WF_le40 1 (lastS a) (numS (mvS a 0)) q (numS b) (.inl rfl) (by omega) ly (by omega)
        refine step_l1 h _ 0 (by omega) [0, (n : Int)] (by simp) 0 0 (by simp) rfl (canL_zero _) h0 ?_
        refine step_l1 h _ _ (by omega) [0, (n : Int)] (by simp) 1 n (by simp) rfl e2 (by omega) ?_
        have ew : 0 + WF 1 (lastS a) (numS (mvS a 0)) q (numS b) + WF 1 (lastS a) (numS (mvS a n)) q (numS b) = WF 1 (lastS a) (numS a) (q + 1) (numS b) := by
          rw [hW, if_pos x1, if_pos x0]
          rcases e4 with ⟨x2, x3⟩ | ⟨x2, x3⟩
          · have y2 : numS (mvS a 0) = numS a + 1 := x2
            have y3 : numS (mvS a n) = numS a - 1 := by have : numS (mvS a n) + 1 = numS a := x3; omega
            rw [y2, y3]; omega
          · have y2 : numS (mvS a 0) = numS a - 1 := by have : numS (mvS a 0) + 1 = numS a := x2; omega
            have y3 : numS (mvS a n) = numS a + 1 := x3
            rw [y2, y3]; omega
        rw [ew]
        exact end_l1 _ _ [0, (n : Int)]
    refine Ev.next ⟨K, fun k hk => ?_⟩ key
    have hK := hK k hk
    simp only at hK
    rw [laws_FnWalksMean.j8, if_neg (by simp), if_pos (by omega), hK, Option.bind_some]
    rfl
theorem chance_true {a b : ByteArray} {m : Nat} (h : smallB a b (m : Int) = true) : ∃ g p r : Nat, 0 < g ∧ WF 2 (lastS a) (numS a) m (numS b) = g * p ∧ 2 ^ m = g * r ∧ 0 < r ∧ chanceR a b (m : Int) = ((p : Int), (r : Int), true) := by
  obtain ⟨g, p, r, hg, h1, h2, h3, h4⟩ := low_facts (WF 2 (lastS a) (numS a) m (numS b)) (2 ^ m) (Nat.pow_pos (by omega))
  refine ⟨g, p, r, hg, h1, h2, h3, ?_⟩
  unfold chanceR
  rw [if_pos h, Int.toNat_natCast, h4]
theorem le_mul {g x y : Nat} (h : 0 < g) (e : y = g * x) : x ≤ y := by rw [e]; exact Nat.le_mul_of_pos_left x h
theorem likely_ev {a b : ByteArray} {m : Nat} (h : smallB a b (m : Int) = true) :
    Ev (fun k => laws_FnWalksMean.j7 k a b (m : Int) (WF 1 (lastS a) (numS a) m (numS b) : Int) (chanceR a b (m : Int)).1 (chanceR a b (m : Int)).2.1 (likelyR a (m : Int)).1 false) true := by
  obtain ⟨c1, c2, c3, c4⟩ := small_facts h
  obtain ⟨h1, h2, h3, h20, h0, _, l1, l2, lx, ly, l4⟩ := two_more c1
  have ha : smallB a a (m : Int) = true := small_of (two_of h1 h1 rfl) c2 c3 c4
  obtain ⟨n, hn, f1, _, f2, f3⟩ := likely_first ha
  have ln := likelyR_len a (m : Int) (by omega)
  have hs : smallB a (stB a.size n) (m : Int) = true := small_of (two_of h1 (stB_state _ _ (by omega) h20) (stB_size _ _).symm) c2 c3 c4
  have hnum : numS (stB a.size n) = n := stB_num _ _ (by omega)
  obtain ⟨g1, p1, r1, hg1, x1, x2, x3, x4⟩ := chance_true h
  obtain ⟨g2, p2, r2, hg2, y1, y2, y3, y4⟩ := chance_true hs
  rw [hnum] at y1
  obtain ⟨K, hK⟩ := implAfter_ev a (stB a.size n) (m : Int) (by omega) (by rw [stB_size]; omega)
  rw [y4] at hK
  have hle := f3 (numS b) ly
  obtain ⟨K2, h2⟩ := moves_ev h
  rw [x4]
  generalize (likelyR a (m : Int)).1 = R at f1 f2 ln
  have hW1 := WF_le 2 (lastS a) (numS a) m n (.inr rfl) (by omega) hn
  have hW2 := WF_le 2 (lastS a) (numS a) m (numS b) (.inr rfl) (by omega) ly
  refine ⟨K + K2 + 1, fun k hk => ?_⟩
  obtain ⟨k, rfl⟩ : ∃ q, k = q + 1 := ⟨k - 1, by omega⟩
  have hK := hK k (by omega)
  have h2 := h2 k (by omega)
  simp only at hK h2
  dsimp only
  rw [laws_FnWalksMean.j7, if_neg (by simp), if_neg (by omega), if_pos (by omega), f2, hK, Option.bind_some, if_pos rfl]
  by_cases c : (m : Int) ≤ 20
  · have hp : 2 ^ m ≤ 1048576 := Nat.pow_le_pow_right (n := 2) (by omega) (show m ≤ 20 by omega)
    have b1 := le_mul hg1 x1
    have b2 := le_mul hg1 x2
    have b3 := le_mul hg2 y1
    have b4 := le_mul hg2 y2
    have m1 : p2 * r1 ≤ 1048576 * 1048576 := Nat.mul_le_mul (by omega) (by omega)
    have m2 : p1 * r2 ≤ 1048576 * 1048576 := Nat.mul_le_mul (by omega) (by omega)
    have hcmp : p1 * r2 ≤ p2 * r1 := by
      have e1 : g1 * g2 * (p1 * r2) = (g1 * p1) * (g2 * r2) := by grind
      have e2 : g1 * g2 * (p2 * r1) = (g2 * p2) * (g1 * r1) := by grind
      have : g1 * g2 * (p1 * r2) ≤ g1 * g2 * (p2 * r1) := by
        rw [e1, e2, ← x1, ← y2, ← y1, ← x2]
        exact Nat.mul_le_mul_right _ hle
      exact Nat.le_of_mul_le_mul_left this (Nat.mul_pos hg1 hg2)
    have n1 : (p2 : Int) * (r1 : Int) = ((p2 * r1 : Nat) : Int) := by simp
    have n2 : (p1 : Int) * (r2 : Int) = ((p1 * r2 : Nat) : Int) := by simp
    rw [if_pos c]
    dsimp only
    rw [n1, n2, w64 (by omega) (by omega), w64 (by omega) (by omega), decide_eq_false (by omega)]
    exact h2
  · rw [if_neg c]
    exact h2
theorem back_ev {a b : ByteArray} {m : Nat} (h : smallB a b (m : Int) = true) :
    Ev (fun k => laws_FnWalksMean.j6 k a b (m : Int) (WF 1 (lastS a) (numS a) m (numS b) : Int) (chanceR a b (m : Int)).1 (chanceR a b (m : Int)).2.1 (likelyR a (m : Int)).1 false) true := by
  obtain ⟨c1, c2, c3, c4⟩ := small_facts h
  obtain ⟨h1, h2, h3, h20, h0, hl, l1, l2, lx, ly, l4⟩ := two_more c1
  have hs : smallB b a (m : Int) = true := small_of (two_of h2 h1 h3.symm) (by omega) c3 c4
  obtain ⟨K, hK⟩ := implWalks_ev b a (m : Int) (by omega) (by omega)
  rw [walks_true hs, hl, W_sym _ _ _ _ ly lx] at hK
  refine Ev.next ⟨K, fun k hk => ?_⟩ (likely_ev h)
  have hK := hK k hk
  simp only at hK
  rw [laws_FnWalksMean.j6, if_neg (by simp), hK, Option.bind_some, if_pos rfl, bne_self_eq_false]
theorem share_ev (a b : ByteArray) (m : Int) :
    Ev (fun k => laws_FnWalksMean.j5 k a b m (walksR a b m).1 (chanceR a b m).1 (chanceR a b m).2.1 (chanceR a b m).2.2 (likelyR a m).1) true := by
  by_cases h : smallB a b m = true
  · obtain ⟨c1, c2, c3, c4⟩ := small_facts h
    obtain ⟨q, rfl⟩ : ∃ q : Nat, m = q := ⟨m.toNat, by omega⟩
    obtain ⟨h1, h2, h3, h20, h0, hl, l1, l2, lx, ly, l4⟩ := two_more c1
    obtain ⟨g1, p1, r1, hg1, x1, x2, x3, x4⟩ := chance_true h
    have hk := back_ev h
    rw [walks_true h]
    rw [x4] at hk ⊢
    have hle := WF_le 2 (lastS a) (numS a) q (numS b) (.inr rfl) (by omega) ly
    have hpos := W_pos (lastS a) (numS a) q (numS b)
    have h12 : p1 ≤ r1 := by
      rw [x1, x2] at hle
      exact Nat.le_of_mul_le_mul_left hle hg1
    have hp : 0 < WF 2 (lastS a) (numS a) q (numS b) ↔ 0 < p1 := by
      rw [x1]
      exact ⟨fun h => Nat.pos_of_mul_pos_left h, fun h => Nat.mul_pos hg1 h⟩
    have e1 : (decide ((WF 1 (lastS a) (numS a) q (numS b) : Int) > 0) != decide ((p1 : Int) > 0)) = false := by
      rw [bne_eq_false_iff_eq, decide_eq_decide]
      omega
    refine Ev.next ⟨0, fun k _ => ?_⟩ hk
    rw [laws_FnWalksMean.j5, if_pos rfl]
    dsimp only
    rw [e1, if_neg (by simp), if_neg (by omega), if_neg (by omega)]
    by_cases c : (q : Int) = 0
    · obtain rfl : q = 0 := by omega
      have e2 : (((p1 : Int) == 1) != (a.toList == b.toList)) = false := by
        rw [bne_eq_false_iff_eq, Bool.eq_iff_iff, beq_iff_eq, beq_iff_eq, numS_inj h1 h2 h3]
        have w0 : WF 2 (lastS a) (numS a) 0 (numS b) = if numS b = numS a then 1 else 0 := rfl
        rw [w0] at x1
        have hr : g1 = 1 := by
          have : g1 * r1 = 1 := x2.symm
          exact Nat.dvd_one.1 ⟨r1, this.symm⟩
        subst hr
        split at x1 <;> omega
      rw [if_pos c, e2]
    · rw [if_neg c]
  · have e : chanceR a b m = (0, 0, false) := by unfold chanceR; rw [if_neg h]
    rw [e]
    exact Ev.last fun k => by rw [laws_FnWalksMean.j5, if_neg (by simp)]
theorem sides_ev (s x y : ByteArray) (hs : s.size ≤ 1048576) (hx : x.size ≤ 1048576) (hy : y.size ≤ 1048576) (a b : ByteArray) (m : Int) :
    Ev (fun k => laws_FnWalksMean.j4 k s x y (chR s x y).1 (chR s x y).2.1 (chR s x y).2.2 a b m (walksR a b m).1 (chanceR a b m).1 (chanceR a b m).2.1 (chanceR a b m).2.2 (likelyR a m).1 false) true := by
  obtain ⟨K2, h2⟩ := share_ev a b m
  by_cases h : twoB s x = true ∧ twoB x y = true ∧ ¬ x.toList = y.toList
  · obtain ⟨t1, t2, t3⟩ := h
    obtain ⟨a1, a2, a3, a20, a0, al, b1, b2, bx, bY, b4⟩ := two_more t1
    obtain ⟨d1, d2, d3, d20, d0, dl, e1, e2, ex, ey, e4⟩ := two_more t2
    have hne : ¬ numS x = numS y := fun e => t3 ((numS_inj d1 d2 d3).2 e)
    obtain ⟨p, q, r, t, u1, u2, u3, u4, u5, u6, u7, u8, u9⟩ := ch_sum (numS s) (numS x) (numS y) hne (by omega) (by omega) (by omega)
    have f1 : chR s x y = ((p : Int), (q : Int), true) := by unfold chR; rw [if_pos ⟨t1, t2, t3⟩, u1]
    have f2 : chR s y x = ((r : Int), (t : Int), true) := by unfold chR; rw [if_pos ⟨two_of a1 d2 (by omega), two_of d2 d1 (by omega), fun e => t3 e.symm⟩, u2]
    obtain ⟨K, hK⟩ := implChance_ev s y x hs hy hx
    rw [f2] at hK
    rw [f1]
    have m1 : p * t ≤ 1048576 * 1048576 := Nat.mul_le_mul u4 u7
    have m2 : r * q ≤ 1048576 * 1048576 := Nat.mul_le_mul u6 u5
    have n1 : (p : Int) * (t : Int) = ((p * t : Nat) : Int) := by simp
    have n2 : (r : Int) * (q : Int) = ((r * q : Nat) : Int) := by simp
    have n3 : (q : Int) * (t : Int) = ((q * t : Nat) : Int) := by simp
    have q1 := numS_inj a1 d1 a3
    have q2 := numS_inj a1 d2 (show s.size = y.size by omega)
    refine ⟨K + K2 + 1, fun k hk => ?_⟩
    obtain ⟨k, rfl⟩ : ∃ z, k = z + 1 := ⟨k - 1, by omega⟩
    have hK := hK k (by omega)
    have h2 := h2 k (by omega)
    simp only at hK h2
    dsimp only
    rw [laws_FnWalksMean.j4, if_neg (by simp), if_pos rfl, hK, Option.bind_some, if_pos rfl]
    dsimp only
    rw [n1, n2, n3, w64 (a := ((p * t : Nat) : Int)) (by omega) (by omega), w64 (a := ((r * q : Nat) : Int)) (by omega) (by omega), w64 (a := ((q * t : Nat) : Int)) (by omega) (by omega), w64 (by omega) (by omega), if_pos (by omega)]
    by_cases c1 : s.toList = x.toList
    · rw [if_pos c1, if_pos (by have := u8 (q1.1 c1); omega)]
      by_cases c2 : s.toList = y.toList
      · exact absurd (c1.symm.trans c2) t3
      · rw [if_neg c2]; exact h2
    · rw [if_neg c1]
      by_cases c2 : s.toList = y.toList
      · rw [if_pos c2, if_pos (by have := u9 (q2.1 c2); omega)]; exact h2
      · rw [if_neg c2]; exact h2
  · have e : chR s x y = (0, 0, false) := by unfold chR; rw [if_neg h]
    rw [e]
    refine Ev.next (f := fun k => laws_FnWalksMean.j5 k a b m (walksR a b m).1 (chanceR a b m).1 (chanceR a b m).2.1 (chanceR a b m).2.2 (likelyR a m).1) ⟨0, fun k _ => ?_⟩ ⟨K2, h2⟩
    rw [laws_FnWalksMean.j4, if_neg (by simp), if_neg (by simp)]
theorem rest_ev (xl : List Int) (hl : okL xl) :
    Ev (fun k => laws_FnWalksMean.j3 k xl) true := by
  obtain ⟨s, x, y, ⟨K0, h0⟩, cs, cx, cy⟩ := drawChance_ok hl
  obtain ⟨a, b, m, ⟨K11, h11⟩, ca, cb⟩ := drawWalks_ok hl
  have hs : s.size ≤ 1048576 := by have := cs.1; omega
  have hx : x.size ≤ 1048576 := by have := cx.1; omega
  have hy : y.size ≤ 1048576 := by have := cy.1; omega
  have ha : a.size ≤ 1048576 := by have := ca.1; omega
  have hb : b.size ≤ 1048576 := by have := cb.1; omega
  obtain ⟨K1, h1⟩ := implChance_ev s x y hs hx hy
  obtain ⟨K2, h2⟩ := specChance_ev s x y
  obtain ⟨K3, h3⟩ := implWalks_ev a b m ha hb
  obtain ⟨K4, h4⟩ := specWalks_ev a b m
  obtain ⟨K5, h5⟩ := implAfter_ev a b m ha hb
  obtain ⟨K6, h6⟩ := specAfter_ev a b m
  obtain ⟨K7, h7⟩ := implLikely_ev a m ha
  obtain ⟨K8, h8⟩ := specLikely_ev a m
  obtain ⟨K9, h9⟩ := yTexts_ev (likelyR a m).1 (by have := likelyR_len a m ha; omega)
  obtain ⟨K10, h10⟩ := sides_ev s x y hs hx hy a b m
  have e1 : (chanceR a b m).2.2 = (walksR a b m).2 := by unfold chanceR walksR; by_cases c : smallB a b m = true <;> simp [c]
  refine ⟨K0 + K11 + K1 + K2 + K3 + K4 + K5 + K6 + K7 + K8 + K9 + K10 + 1, fun k hk => ?_⟩
  obtain ⟨k, rfl⟩ : ∃ z, k = z + 1 := ⟨k - 1, by omega⟩
  have h0 := h0 k (by omega)
  have h11 := h11 k (by omega)
  have h1 := h1 k (by omega)
  have h2 := h2 k (by omega)
  have h3 := h3 k (by omega)
  have h4 := h4 k (by omega)
  have h5 := h5 k (by omega)
  have h6 := h6 k (by omega)
  have h7 := h7 k (by omega)
  have h8 := h8 k (by omega)
  have h9 := h9 k (by omega)
  have h10 := h10 k (by omega)
  simp only at h0 h11 h1 h2 h3 h4 h5 h6 h7 h8 h9 h10
  dsimp only
  rw [laws_FnWalksMean.j3, h0, Option.bind_some]
  dsimp only
  rw [h1, Option.bind_some, h2, Option.bind_some, h11, Option.bind_some]
  dsimp only
  rw [h3, Option.bind_some, h4, Option.bind_some, h5, Option.bind_some, h6, Option.bind_some, h7, Option.bind_some, h8, Option.bind_some, bne_self_eq_false, if_neg (by simp), if_pos rfl, if_pos rfl, bne_self_eq_false, if_neg (by simp), if_pos rfl, bne_self_eq_false, if_neg (by simp), if_pos rfl, if_pos rfl, e1, bne_self_eq_false, if_neg (by simp), bne_self_eq_false, if_neg (by simp), h9, Option.bind_some, if_pos rfl]
  by_cases c : smallB a b m = true
  · obtain ⟨c1, c2, c3, c4⟩ := small_facts c
    have d1 := (two_facts c1).1
    have ca : smallB a a m = true := small_of (two_of d1 d1 rfl) c2 c3 c4
    have e2 : (likelyR a m).2 = true := by unfold likelyR; rw [if_pos ca]
    have e3 : (walksR a b m).2 = true := by unfold walksR; rw [if_pos c]
    rw [if_pos e3, e2, ← e1]
    exact h10
  · have e3 : (walksR a b m).2 = false := by unfold walksR; rw [if_neg c]
    rw [if_neg (by rw [e3]; simp), ← e1]
    exact h10
theorem mean_true {a b : ByteArray} (h : twoB a b = true) : meanR a b = ((meanZ (numS a) (numS b) (lastS a) : Int), true) := by unfold meanR; rw [if_pos h]
theorem step_l0 {a b : ByteArray} (h : twoB a b = true) {xl : List Int} (M : Int) (J : List Int) (w : Nat) (hw : w ≤ 1099509530625) (L : List Int) (hL : L.length ≤ 20) (i n : Nat) (hi : i < L.length) (hn : rd L (i : Int) = (n : Int)) (hc : canL a.data.toList n = true) (hlt : n < a.size) (hx : numS (mvS a n) ≤ lastS a)
    (hk : Ev (fun k => laws_FnWalksMean.l0 k xl a b M J true ((w + meanZ (numS (mvS a n)) (numS b) (lastS a) : Nat) : Int) L (L.length : Int) ((i + 1 : Nat) : Int)) true) :
    Ev (fun k => laws_FnWalksMean.l0 k xl a b M J true (w : Int) L (L.length : Int) (i : Int)) true := by
  obtain ⟨h1, h2, h3, h20, h0, _, l1, l2, lx, ly, _⟩ := two_more h
  obtain ⟨e1, e2⟩ := two_mv h n
  obtain ⟨K, hK⟩ := implMeanFrom_ev (mvS a n) b (by rw [mvS_size]; omega) (by omega)
  have hle := mean_le (numS (mvS a n)) (numS b) (lastS a) hx ly l2
  rw [mean_true e1, e2] at hK
  generalize meanZ (numS (mvS a n)) (numS b) (lastS a) = z at hK hle hk
  refine Ev.next ⟨K, fun k hk => ?_⟩ hk
  have hK := hK k hk
  simp only at hK
  rw [laws_FnWalksMean.l0, if_pos (by omega), if_pos (by omega), if_pos (by omega), hn, implRing_eq h1 n hlt hc, Option.bind_some, hK, Option.bind_some, if_pos rfl, if_pos rfl]
  dsimp only
  rw [w64 (by omega) (by omega), w64 (by omega) (by omega)]
  rfl
theorem end_l0 {a b : ByteArray} {xl : List Int} (M w : Nat) (L : List Int) (hL : L.length ≤ 20) (hM : M ≤ 1099509530625) (he : ((M : Int) - 1) * (L.length : Int) = (w : Int)) (hw : w ≤ 1099511627776000)
    (hk : Ev (fun k => laws_FnWalksMean.j3 k xl) true) :
    Ev (fun k => laws_FnWalksMean.l0 k xl a b (M : Int) L true (w : Int) L (L.length : Int) (L.length : Int)) true :=
  Ev.next ⟨0, fun k _ => by rw [laws_FnWalksMean.l0, if_neg (by omega), if_pos rfl, w64 (a := (M : Int) - 1) (by omega) (by omega), he, w64 (by omega) (by omega), if_pos rfl]⟩ hk
theorem around_ev {a b : ByteArray} (h : twoB a b = true) (hne : ¬ numS a = numS b) {xl : List Int} (hk : Ev (fun k => laws_FnWalksMean.j3 k xl) true) :
    Ev (fun k => laws_FnWalksMean.l0 k xl a b (meanZ (numS a) (numS b) (lastS a) : Int) (movesI a) true 0 (movesI a) ((movesI a).length : Int) 0) true := by
  obtain ⟨h1, h2, h3, h20, h0, _, l1, l2, lx, ly, l4⟩ := two_more h
  obtain ⟨s1, s2, s3, s4⟩ := state_facts h1
  have hn := data_ne h0
  have hz := Lib.size_eq a
  have hM := mean_le (numS a) (numS b) (lastS a) lx ly l2
  show Ev (fun k => laws_FnWalksMean.l0 k xl a b (meanZ (numS a) (numS b) (lastS a) : Int) (movesI a) true ((0 : Nat) : Int) (movesI a) ((movesI a).length : Int) ((0 : Nat) : Int)) true
  by_cases c : numS a = 0 ∨ numS a + 1 = 2 ^ a.data.toList.length
  · obtain ⟨e1, e2⟩ := moves_one s3 hn c
    have e3 : movesI a = [0] := by unfold movesI; rw [e1]; rfl
    rw [e3]
    have key : numS (mvS a 0) ≤ lastS a ∧ (meanZ (numS (mvS a 0)) (numS b) (lastS a) : Int) = (meanZ (numS a) (numS b) (lastS a) : Int) - 1 := by
      rcases e2 with ⟨x0, x1⟩ | ⟨x0, x1⟩
      · have y0 : numS a = 0 := x0
        have y1 : numS (mvS a 0) = 1 := x1
        rw [y0] at hne ⊢
        rw [y1]
        exact ⟨by omega, mean_zero _ _ ly (by omega) hne⟩
      · have x0 : 0 < numS a := x0
        rw [← hz] at c
        have y0 : numS a = lastS a := by omega
        have y1 : numS (mvS a 0) = lastS a - 1 := by have : numS (mvS a 0) + 1 = numS a := x1; omega
        rw [y0] at hne ⊢
        rw [y1]
        exact ⟨by omega, mean_last _ _ ly (by omega) hne⟩
    obtain ⟨k1, k2⟩ := key
    have hle := mean_le (numS (mvS a 0)) (numS b) (lastS a) k1 ly l2
    refine step_l0 h _ _ 0 (by omega) [0] (by simp) 0 0 (by simp) rfl (canL_zero _) h0 k1 ?_
    exact end_l0 _ _ [0] (by simp) hM (by rw [Nat.zero_add, k2]; simp) (by omega) hk
  · have hl2 : 2 ^ a.data.toList.length = lastS a + 1 := by rw [← hz]; exact l4
    have x0 : 0 < numS a := by omega
    have x1 : numS a < lastS a := by omega
    obtain ⟨n, n0, n1, e1, e2, e4⟩ := moves_two s3 hn x0 (show numS a + 1 < _ by omega)
    have e3 : movesI a = [0, (n : Int)] := by unfold movesI; rw [e1]; rfl
    rw [e3]
    have hmid := mean_mid (numS a) (numS b) (lastS a) x0 x1 ly hne
    have key : numS (mvS a 0) ≤ lastS a ∧ numS (mvS a n) ≤ lastS a ∧ (meanZ (numS (mvS a 0)) (numS b) (lastS a) : Int) + (meanZ (numS (mvS a n)) (numS b) (lastS a) : Int) = 2 * ((meanZ (numS a) (numS b) (lastS a) : Int) - 1) := by
      rcases e4 with ⟨x2, x3⟩ | ⟨x2, x3⟩
      · have y2 : numS (mvS a 0) = numS a + 1 := x2
        have y3 : numS (mvS a n) = numS a - 1 := by have : numS (mvS a n) + 1 = numS a := x3; omega
        rw [y2, y3]
        exact ⟨by omega, by omega, by omega⟩
      · have y2 : numS (mvS a 0) = numS a - 1 := by have : numS (mvS a 0) + 1 = numS a := x2; omega
        have y3 : numS (mvS a n) = numS a + 1 := x3
        rw [y2, y3]
        exact ⟨by omega, by omega, hmid⟩
    obtain ⟨k1, k2, k3⟩ := key
    have hle := mean_le (numS (mvS a 0)) (numS b) (lastS a) k1 ly l2
    have hle2 := mean_le (numS (mvS a n)) (numS b) (lastS a) k2 ly l2
    refine step_l0 h _ _ 0 (by omega) [0, (n : Int)] (by simp) 0 0 (by simp) rfl (canL_zero _) h0 k1 ?_
    refine step_l0 h _ _ _ (by omega) [0, (n : Int)] (by simp) 1 n (by simp) rfl e2 (by omega) k2 ?_
    refine end_l0 _ _ [0, (n : Int)] (by simp) hM ?_ (by omega) hk
    have el : (([0, (n : Int)] : List Int).length : Int) = 2 := rfl
    rw [el]
    omega
theorem FnWalksMean_pure (l0 : List Int) (l1 : List Int) (y0 : l0.length ≤ 9223372036854775807) (y1 : l1.length ≤ 9223372036854775807) (o0 : (∀ a ∈ l0, (Lit.int .u8 a).wf = true)) (o1 : (∀ a ∈ l1, (Lit.int .u8 a).wf = true)) : ∃ k, laws_FnWalksMean.f k l0 l1 = some true := by
  have hbig : ∃ b, laws_big.f l0 l1 = some b ∧ (b = false → (l0.length : Int) ≤ 1048576 ∧ (l1.length : Int) ≤ wrap64 (1048576 - (l0.length : Int))) := by
    unfold laws_big.f
    by_cases c : (l0.length : Int) > 1048576
    · exact ⟨true, by rw [if_pos c], fun h => by cases h⟩
    · refine ⟨_, by rw [if_neg c], fun h => ?_⟩
      have := of_decide_eq_false h
      exact ⟨by omega, by omega⟩
  obtain ⟨b, hbig, hb⟩ := hbig
  cases b with
  | true => exact ⟨0, by unfold laws_FnWalksMean.f; rw [hbig, Option.bind_some, if_pos rfl]⟩
  | false =>
  have cb := hb rfl
  have hw : wrap64 (1048576 - (l0.length : Int)) = 1048576 - (l0.length : Int) := w64 (by omega) (by omega)
  have h0 : okL l0 := ⟨by omega, fun a ha => by have := o0 a ha; exact u8_wf this⟩
  have hx : okL l1 := ⟨by omega, fun a ha => by have := o1 a ha; exact u8_wf this⟩
  obtain ⟨xl, hxe⟩ : ∃ xl, xl = l1 := ⟨_, rfl⟩
  rw [← hxe] at hx
  rw [← hxe] at hbig
  rw [← hxe]
  obtain ⟨a, b, ⟨K0, h0⟩, ca, cb⟩ := drawFrom_ok h0
  have ha : a.size ≤ 1048576 := by have := ca.1; omega
  have hb : b.size ≤ 1048576 := by have := cb.1; omega
  obtain ⟨K1, h1⟩ := implMeanFrom_ev a b ha hb
  obtain ⟨K2, h2⟩ := specMeanFrom_ev a b
  obtain ⟨K3, h3⟩ := implClear_ev a ha
  obtain ⟨K4, h4⟩ := specClear_ev a
  have hrest := rest_ev xl hx
  have key : Ev (fun k => laws_FnWalksMean.j0 k xl a b (meanR a b).1 (meanR a b).2 false) true := by
    by_cases c : twoB a b = true
    · obtain ⟨d1, d2, d3, d20, d0, dl, l1, l2, lx, ly, l4⟩ := two_more c
      obtain ⟨q1, q2⟩ := mean_low (numS a) (numS b) (lastS a) lx ly
      obtain ⟨K5, h5⟩ := implFew_ev a b ha hb
      have e5 : fewR a b = ((dist (numS a) (numS b) : Int), true) := by unfold fewR; rw [if_pos c]
      rw [e5] at h5
      rw [mean_true c]
      have e6 : (((meanZ (numS a) (numS b) (lastS a) : Int) == 0) != (a.toList == b.toList)) = false := by
        rw [bne_eq_false_iff_eq, Bool.eq_iff_iff, beq_iff_eq, beq_iff_eq, numS_inj d1 d2 d3]
        omega
      have k2 : Ev (fun k => laws_FnWalksMean.j1 k xl a b (meanZ (numS a) (numS b) (lastS a) : Int) false) true := by
        by_cases c2 : a.toList = b.toList
        · refine Ev.next ⟨0, fun k _ => ?_⟩ hrest
          rw [laws_FnWalksMean.j1, if_neg (by simp), if_pos c2]
        · obtain ⟨K6, h6⟩ := implMoves_ev a ha
          have hm : movesR a = (movesI a, true) := by unfold movesR; rw [if_pos d1]
          rw [hm] at h6
          refine Ev.next ⟨K6, fun k hk => ?_⟩ (around_ev c (fun e => c2 ((numS_inj d1 d2 d3).2 e)) hrest)
          have h6 := h6 k hk
          simp only at h6
          rw [laws_FnWalksMean.j1, if_neg (by simp), if_neg c2, h6, Option.bind_some]
      refine Ev.next ⟨K5, fun k hk => ?_⟩ k2
      have h5 := h5 k hk
      simp only at h5
      rw [laws_FnWalksMean.j0, if_neg (by simp), if_pos rfl, h5, Option.bind_some, if_pos rfl, if_neg (by dsimp only; omega)]
      dsimp only
      rw [e6]
    · have e : meanR a b = (0, false) := by unfold meanR; rw [if_neg c]
      rw [e]
      refine Ev.next ⟨0, fun k _ => ?_⟩ hrest
      rw [laws_FnWalksMean.j0, if_neg (by simp), if_neg (by simp)]
  obtain ⟨K5, key⟩ := key
  obtain ⟨k, hk⟩ : ∃ k, k = K0 + K1 + K2 + K3 + K4 + K5 := ⟨_, rfl⟩
  refine ⟨k, ?_⟩
  have h0 := h0 k (by omega)
  have key := key k (by omega)
  have h1 := h1 k (by omega)
  have h2 := h2 k (by omega)
  have h3 := h3 k (by omega)
  have h4 := h4 k (by omega)
  simp only at h0 h1 h2 h3 h4 key
  rw [laws_FnWalksMean.f, hbig, Option.bind_some, if_neg (by simp), h0, Option.bind_some]
  dsimp only
  rw [h1, Option.bind_some, h2, Option.bind_some, h3, Option.bind_some, h4, Option.bind_some, bne_self_eq_false, if_neg (by simp), if_pos rfl, bne_self_eq_false, if_neg (by simp), if_pos rfl]
  by_cases c : twoB a b = true
  · have d1 := (two_facts c).1
    have e1 : (meanR a b).2 = true := by unfold meanR; rw [if_pos c]
    have e2 : (clearR a).2 = true := by unfold clearR; rw [if_pos d1]
    rw [if_pos e1, e2]; exact key
  · have e1 : (meanR a b).2 = false := by unfold meanR; rw [if_neg c]
    rw [if_neg (by rw [e1]; simp)]
    exact key
end Go.Proofs.YtcogjabdddikjaaDoor.Pure
