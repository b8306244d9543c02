/- Ticks lead into cycles that come around, so many ticks are ticks one after the other, and lamps change as often as told: for all that is drawn. No condition. -/
import Derived.Test.YtiiahdjjngdgoaaDoorQPLTickz
namespace Go.Proofs.YtiiahdjjngdgoaaDoor.Pure
open Go.RowKit Go.Proofs.YtiiahdjjngdgoaaDoor.PLTick Go.Proofs.YtiiahdjjngdgoaaDoorW.PrintWords Go.Proofs.YtiiahdjjngdgoaaDoorW.PrintLast Go.Proofs.YtiiahdjjngdgoaaDoorW.PrintMore
set_option linter.unusedVariables false
set_option linter.unusedSimpArgs false
theorem u8_wf {a : Int} (h : (Lit.int .u8 a).wf = true) : 0 ≤ a ∧ a ≤ 255 := by
  have h2 : IntKind.u8.min ≤ a ∧ a ≤ IntKind.u8.max := by simpa [Lit.wf] using h
  have e1 : IntKind.u8.min = 0 := by decide
  have e2 : IntKind.u8.max = 255 := by decide
  omega
theorem tickR_lit {l : List ByteArray} {s : ByteArray} (h : litR l s = true) : tickR l s = (tickS l s, true) := by unfold tickR; rw [if_pos h]
theorem first_ev (u : ByteArray) (i : Int) (l : List ByteArray) : Ev (fun k => laws_FnLampsTick.j11 k u i (firstR l u i).1 (firstR l u i).2 l) true := by
  cases hb : (firstR l u i).2 with
  | false => exact Ev.last fun k => by rw [laws_FnLampsTick.j11, if_neg (by simp)]
  | true =>
    obtain ⟨hl, p, j, rfl, hj, hp, hp2, h49, h48⟩ := firstR_true hb
    rw [hp]
    have hz1 := (lit_facts (lit_tkN hl p)).2.1
    have hz2 := (lit_facts (lit_tkN hl (p - 1))).2.1
    obtain ⟨K1, h1⟩ := implTicks_ev l u (p : Int)
    obtain ⟨K2, h2⟩ := implTicks_ev l u ((p - 1 : Nat) : Int)
    rw [ticksR_tk hl (by omega)] at h1 h2
    refine ⟨K1 + K2 + 1, fun k hk => ?_⟩
    obtain ⟨k, rfl⟩ : ∃ m, k = m + 1 := ⟨k - 1, by omega⟩
    dsimp only
    have h1 := h1 k (by omega)
    have h2 := h2 k (by omega)
    simp only at h1 h2
    rw [laws_FnLampsTick.j11, if_pos rfl, h1, Option.bind_some, if_pos rfl, if_pos (by omega), if_pos (by simp only; omega), if_pos h49]
    by_cases c : (p : Int) > 0
    · rw [if_pos c, show wrap64 ((p : Int) - 1) = ((p - 1 : Nat) : Int) by rw [w64 (by omega) (by omega)]; omega, h2, Option.bind_some, if_pos rfl, if_pos (by simp only; omega), if_pos (h48 (by omega))]
    · rw [if_neg c]
theorem lead_ev {m : List ByteArray} {t : ByteArray} (h : litR m t = true) (u : ByteArray) (i : Int) (n : List ByteArray) :
    Ev (fun k => laws_FnLampsTick.j10 k t (cyS (cycC m t)) (courseR m t).2 u i (firstR n u i).1 (firstR n u i).2 false m n) true := by
  obtain ⟨_, c1, c2, c3, _, _⟩ := courseR_eq h
  obtain ⟨K3, h3⟩ := first_ev u i n
  have hlen : (cyS (cycC m t)).length ≤ 9223372036854775806 := by
    rw [cyS_length]; unfold cycC; rw [List.length_drop]; omega
  obtain ⟨d, hd⟩ : ∃ d : Nat, (courseR m t).2 = (d : Int) := ⟨(courseR m t).2.toNat, by omega⟩
  obtain ⟨K1, h1⟩ := implTicks_ev m t ((d - 1 : Nat) : Int)
  rw [ticksR_tk h (by omega)] at h1
  obtain ⟨K2, h2⟩ := xText_ev (cyS (cycC m t)) (tkN (tickS m) (d - 1) t) hlen
  refine ⟨K1 + K2 + K3 + 1, fun k hk => ?_⟩
  obtain ⟨k, rfl⟩ : ∃ m, k = m + 1 := ⟨k - 1, by omega⟩
  dsimp only
  have h1 := h1 k (by omega)
  have h2 := h2 k (by omega)
  have h3 := h3 k (by omega)
  simp only at h1 h2 h3
  rw [laws_FnLampsTick.j10, if_neg (by simp), hd]
  by_cases c : (d : Int) > 0
  · have ho : decide (tkN (tickS m) (d - 1) t ∈ cyS (cycC m t)) = false := decide_eq_false (fun hm => cycC_out h (d - 1) (by omega) ((cyS_mem _ _).1 hm))
    rw [ho] at h2
    rw [if_pos c, show wrap64 ((d : Int) - 1) = ((d - 1 : Nat) : Int) by rw [w64 (by omega) (by omega)]; omega, h1, Option.bind_some, if_pos rfl, h2, Option.bind_some, if_neg (by simp), h3]
  · rw [if_neg c, h3]
theorem cycle_ev {m : List ByteArray} {t : ByteArray} (h : litR m t = true) (u : ByteArray) (i : Int) (n : List ByteArray) : ∀ (e j : Nat), j + e = (cycC m t).length →
    Ev (fun k => laws_FnLampsTick.l3 k t (cyS (cycC m t)) (courseR m t).2 ((cycC m t).length : Int) u i (firstR n u i).1 (firstR n u i).2 (cyS (cycC m t)) ((cyS (cycC m t)).length : Int) (j : Int) m n) true := by
  obtain ⟨_, c1, c2, c3, _, _⟩ := courseR_eq h
  obtain ⟨q1, q2⟩ := cycC_len h
  have hlen := cyS_length (cycC m t)
  intro e
  induction e with
  | zero =>
    intro j hj
    obtain ⟨d, hd⟩ : ∃ d : Nat, (courseR m t).2 = (d : Int) := ⟨(courseR m t).2.toNat, by omega⟩
    obtain ⟨K1, h1⟩ := implTicks_ev m t (d : Int)
    rw [ticksR_tk h (by omega)] at h1
    obtain ⟨K2, h2⟩ := xText_ev (cyS (cycC m t)) (tkN (tickS m) d t) (by omega)
    obtain ⟨K3, h3⟩ := lead_ev h u i n
    have hin := cycC_in h
    rw [hd, Int.toNat_natCast] at hin
    rw [decide_eq_true ((cyS_mem _ _).2 hin)] at h2
    refine ⟨K1 + K2 + K3 + 1, fun k hk => ?_⟩
    obtain ⟨k, rfl⟩ : ∃ m, k = m + 1 := ⟨k - 1, by omega⟩
    dsimp only
    have h1 := h1 k (by omega)
    have h2 := h2 k (by omega)
    have h3 := h3 k (by omega)
    simp only at h1 h2 h3
    rw [laws_FnLampsTick.l3, if_neg (by omega), hd, h1, Option.bind_some, if_pos rfl, h2, Option.bind_some, ← hd]
    exact h3
  | succ e ih =>
    intro j hj
    have hjl : j < (cycC m t).length := by omega
    have er : ∀ q : Nat, rdOf ByteArray.empty (cyS (cycC m t)) (q : Int) = (cyS (cycC m t)).getD q ByteArray.empty := fun q => by simp [rdOf]
    have hm : (cyS (cycC m t)).getD j ByteArray.empty ∈ cyS (cycC m t) := by
      have hj' : j < (cyS (cycC m t)).length := by omega
      rw [List.getD, List.getElem?_eq_getElem hj']
      exact List.getElem_mem hj'
    have hlit := cycC_lit h _ ((cyS_mem _ _).1 hm)
    have ew : wrap64 ((j : Int) + 1) = ((j + 1 : Nat) : Int) := by rw [w64 (by omega) (by omega)]; omega
    have et : Int.tmod ((j + 1 : Nat) : Int) ((cycC m t).length : Int) = (((j + 1) % (cycC m t).length : Nat) : Int) := rfl
    have hmod := Nat.mod_lt (j + 1) q2
    refine Ev.next ⟨0, fun k _ => ?_⟩ (ih (j + 1) (by omega))
    rw [laws_FnLampsTick.l3, if_pos (by omega), if_pos (by omega), if_pos (by omega), implTickOnce_eq, er j, tickR_lit hlit, Option.bind_some, if_pos rfl, if_neg (by omega), ew, et, if_pos (by omega), if_pos (by omega), er, cyS_next h j hjl, if_pos rfl, if_pos (by omega)]
    rw [if_neg]
    rw [show (0 : Int) = ((0 : Nat) : Int) from rfl, er 0, bytesLess_eq, Lib.toList_data, Lib.toList_data]
    simpa using cyS_least (cycC m t) q2 j hjl
theorem cycles_ev {x : List Int} (hx : okL x) : Ev (fun k => laws_FnLampsTick.j6 k x) true := by
  obtain ⟨m, t, Kd1, hd1⟩ := drawCycle_ok hx
  obtain ⟨n, u, i, Kd2, hd2⟩ := drawFirst_ok hx
  obtain ⟨K1, h1⟩ := specCycle_ev m t
  obtain ⟨K2, h2⟩ := specLead_ev m t
  obtain ⟨K3, h3⟩ := specFirst_ev n u i
  obtain ⟨K4, h4⟩ := xTexts_ev (cycleR m t).1 (by have := cycleR_len m t; omega)
  have key : Ev (fun k => laws_FnLampsTick.j7 k t (cycleR m t).1 (cycleR m t).2 (leadR m t).1 (leadR m t).2.1 u i (firstR n u i).1 (firstR n u i).2 false m n) true := by
    cases h : litR m t with
    | false =>
      have e : (cycleR m t).2 = false := by unfold cycleR; rw [if_neg (by simp [h])]
      refine Ev.next (f := fun k => laws_FnLampsTick.j11 k u i (firstR n u i).1 (firstR n u i).2 n) ⟨0, fun k _ => ?_⟩ (first_ev u i n)
      rw [laws_FnLampsTick.j7, if_neg (by simp), e, if_neg (by simp)]
    | true =>
      obtain ⟨_, c1, c2, c3, _, _⟩ := courseR_eq h
      obtain ⟨q1, q2⟩ := cycC_len h
      have e1 : cycleR m t = (cyS (cycC m t), true) := by unfold cycleR; rw [if_pos h]; rfl
      have e2 : leadR m t = ((courseR m t).2, ((cycC m t).length : Int), true) := by
        unfold leadR
        rw [if_pos h, w64 (by omega) (by omega)]
        exact congrArg _ (congrArg (·, true) (by omega))
      rw [e1, e2]
      refine Ev.next (f := fun k => laws_FnLampsTick.j8 k t (cyS (cycC m t)) (courseR m t).2 ((cycC m t).length : Int) u i (firstR n u i).1 (firstR n u i).2 false m n) ⟨0, fun k _ => ?_⟩ ?_
      · rw [laws_FnLampsTick.j7, if_neg (by simp), if_pos rfl, if_pos (by simp only [cyS_length]), if_neg (by simp only; omega)]
        simp only
        rw [decide_eq_false (by omega)]
      · refine Ev.next ⟨0, fun k _ => ?_⟩ (cycle_ev h u i n (cycC m t).length 0 (by omega))
        rw [laws_FnLampsTick.j8, if_neg (by simp)]
        rfl
  obtain ⟨K5, h5⟩ := key
  refine ⟨K1 + K2 + K3 + K4 + K5 + Kd1 + Kd2 + 1, fun k hk => ?_⟩
  obtain ⟨k, rfl⟩ : ∃ m, k = m + 1 := ⟨k - 1, by omega⟩
  dsimp only
  have hd1 := hd1 k (by omega)
  have hd2 := hd2 k (by omega)
  have h1 := h1 k (by omega)
  have h2 := h2 k (by omega)
  have h3 := h3 k (by omega)
  have h4 := h4 k (by omega)
  have h5 := h5 k (by omega)
  simp only at h1 h2 h3 h4 h5 hd1 hd2
  have e3 : (leadR m t).2.2 = (cycleR m t).2 := by unfold leadR cycleR; by_cases c : litR m t = true <;> simp [c]
  have e4 : (tickR m t).2 = (cycleR m t).2 := by unfold tickR cycleR; by_cases c : litR m t = true <;> simp [c]
  rw [laws_FnLampsTick.j6, hd1, Option.bind_some]
  dsimp only
  rw [implCycle_eq, h1, implLead_eq, h2, implTickOnce_eq, specTickOnce_eq, hd2]
  simp only [Option.bind_some]
  rw [implFirst_eq, h3]
  simp only [Option.bind_some, bne_self_eq_false, Bool.false_eq_true, if_false, h4, if_true, e3, e4]
  exact h5
theorem times_ev {l : List ByteArray} {s : ByteArray} {tk : Nat} (h : litR l s = true) (ht : tk ≤ 1000000) {x : List Int} (hx : okL x) : ∀ (e j : Nat), j + e = l.length →
    Ev (fun k => laws_FnLampsTick.l2 k x s (tk : Int) (tkN (tickS l) tk s) (timesR l s (tk : Int)).1 ((timesR l s (tk : Int)).1.length : Int) (j : Int)) true := by
  obtain ⟨_, r2, r3⟩ := timesR_cnt h ht
  have hz := (lit_facts h).2.1
  have h10 := (lit_facts h).2.2.2.1
  have hz2 := (lit_facts (lit_tkN h tk)).2.1
  intro e
  induction e with
  | zero =>
    intro j hj
    refine Ev.next (f := fun k => laws_FnLampsTick.j6 k x) ⟨0, fun k _ => ?_⟩ (cycles_ev hx)
    rw [laws_FnLampsTick.l2, if_neg (by omega)]
  | succ e ih =>
    intro j hj
    have hjl : j < l.length := by omega
    have hle := cntN_le l s j tk
    have hodd := cntN_odd h j hjl tk
    refine Ev.next ⟨0, fun k _ => ?_⟩ (ih (j + 1) (by omega))
    rw [laws_FnLampsTick.l2, if_pos (by omega), if_pos (by omega), if_pos (by omega), r3 j hjl, if_neg (by omega), if_neg (by omega), if_pos (by omega), if_pos (by omega), if_neg, w64 (by omega) (by omega)]
    · rfl
    · have et : Int.tmod (cntN l s j tk : Int) 2 = ((cntN l s j tk % 2 : Nat) : Int) := rfl
      rw [et]
      by_cases c : bt s (j : Int) = bt (tkN (tickS l) tk s) (j : Int)
      · have : ¬ cntN l s j tk % 2 = 1 := fun h => hodd.1 h c
        have e1 : ((((cntN l s j tk % 2 : Nat) : Int)) == 1) = false := by rw [beq_eq_false_iff_ne]; omega
        have e2 : (bt s (j : Int) != bt (tkN (tickS l) tk s) (j : Int)) = false := by simpa using c
        rw [e1, e2]; simp
      · have : cntN l s j tk % 2 = 1 := hodd.2 c
        have e1 : ((((cntN l s j tk % 2 : Nat) : Int)) == 1) = true := by rw [beq_iff_eq]; omega
        have e2 : (bt s (j : Int) != bt (tkN (tickS l) tk s) (j : Int)) = true := by simpa using c
        rw [e1, e2]; simp
/-- The changes so far: q ticks, and one more at the lamps below j. -/
def chgL (l : List ByteArray) (s : ByteArray) (q j : Nat) : List Int := (List.range l.length).map fun i => (cntN l s i (if i < j then q + 1 else q) : Int)
theorem chgL_len (l : List ByteArray) (s : ByteArray) (q j : Nat) : (chgL l s q j).length = l.length := by simp [chgL]
theorem chgL_rd (l : List ByteArray) (s : ByteArray) (q j i : Nat) (h : i < l.length) : rd (chgL l s q j) (i : Int) = (cntN l s i (if i < j then q + 1 else q) : Int) := by
  simp [rd, chgL, h]
theorem list_rd {a b : List Int} (hl : a.length = b.length) (h : ∀ i : Nat, i < a.length → rd a (i : Int) = rd b (i : Int)) : a = b := by
  apply List.ext_getElem hl
  intro i h1 h2
  have := h i h1
  simpa [rd, h1, h2] using this
theorem rd_set (a : List Int) (j i : Nat) (v : Int) (hj : j < a.length) : rd (a.set j v) (i : Int) = if i = j then v else rd a (i : Int) := by
  by_cases c : i = j
  · subst c; simp [rd, hj]
  · rw [if_neg c]
    simp [rd, List.getElem?_set_ne (show j ≠ i from fun e => c e.symm)]
theorem one_ev {l : List ByteArray} {s : ByteArray} {q tk : Nat} (h : litR l s = true) (hq : q < tk) (ht : tk ≤ 20) {x : List Int} (hx : okL x) (af : ByteArray) (tm : List Int)
    (hk : Ev (fun k => laws_FnLampsTick.l0 k x s (tk : Int) af tm (tkN (tickS l) (q + 1) s) (chgL l s (q + 1) 0) ((q + 1 : Nat) : Int) l) true) : ∀ (e j : Nat), j + e = l.length →
    Ev (fun k => laws_FnLampsTick.l1 k x s (tk : Int) af tm (tkN (tickS l) q s) (chgL l s q j) (q : Int) (tkN (tickS l) (q + 1) s) (tkN (tickS l) (q + 1) s) (j : Int) l) true := by
  have hz := (lit_facts h).2.1
  have h10 := (lit_facts h).2.2.2.1
  have hlq := lit_tkN h q
  have hlq1 := lit_tkN h (q + 1)
  have hz1 := (lit_facts hlq).2.1
  have hz2 := (lit_facts hlq1).2.1
  intro e
  induction e with
  | zero =>
    intro j hj
    have el : chgL l s q j = chgL l s (q + 1) 0 := list_rd (by rw [chgL_len, chgL_len]) (fun x hx => by
      rw [chgL_len] at hx
      rw [chgL_rd _ _ _ _ _ hx, chgL_rd _ _ _ _ _ hx, if_pos (by omega), if_neg (by omega)])
    refine Ev.next ⟨0, fun k _ => ?_⟩ hk
    rw [laws_FnLampsTick.l1, if_neg (by omega), w64 (by omega) (by omega), el]
    rfl
  | succ e ih =>
    intro j hj
    have hjl : j < l.length := by omega
    have hb := lit_bt hlq1 j hjl
    have hc := chg_bt hlq j hjl
    have ew : wrap64 ((j : Int) + 1) = ((j + 1 : Nat) : Int) := by rw [w64 (by omega) (by omega)]; omega
    have hstep : cntN l s j (q + 1) = cntN l s j q + if chgB l j (tkN (tickS l) q s) = true then 1 else 0 := rfl
    refine Ev.next ⟨0, fun k _ => ?_⟩ (ih (j + 1) (by omega))
    rw [laws_FnLampsTick.l1, if_pos (by omega), if_pos (by omega), if_pos (by omega), if_pos (by omega), if_pos (by omega), if_pos (by omega), ew]
    by_cases c : bt (tkN (tickS l) (q + 1) s) (j : Int) = bt (tkN (tickS l) q s) (j : Int)
    · have hf := hc.1 c
      rw [hf] at hstep
      have el : chgL l s q j = chgL l s q (j + 1) := list_rd (by rw [chgL_len, chgL_len]) (fun x hx => by
        rw [chgL_len] at hx
        rw [chgL_rd _ _ _ _ _ hx, chgL_rd _ _ _ _ _ hx]
        rcases Nat.lt_trichotomy x j with c1 | c1 | c1
        · rw [if_pos c1, if_pos (by omega)]
        · subst c1; rw [if_neg (by omega), if_pos (by omega), hstep]; simp
        · rw [if_neg (by omega), if_neg (by omega)])
      rw [if_pos c, el]
    · have hf : chgB l j (tkN (tickS l) q s) = true := by
        cases hx : chgB l j (tkN (tickS l) q s) with
        | true => rfl
        | false => exact absurd (hc.2 hx) c
      rw [hf] at hstep
      have hle := cntN_le l s j q
      have er : rd (chgL l s q j) (j : Int) = (cntN l s j q : Int) := by rw [chgL_rd _ _ _ _ _ hjl, if_neg (by omega)]
      have el : (chgL l s q j).set j (cntN l s j q + 1 : Int) = chgL l s q (j + 1) := list_rd (by rw [List.length_set, chgL_len, chgL_len]) (fun x hx => by
        rw [List.length_set, chgL_len] at hx
        rw [rd_set _ _ _ _ (by rw [chgL_len]; exact hjl), chgL_rd _ _ _ _ _ hx, chgL_rd _ _ _ _ _ hx]
        rcases Nat.lt_trichotomy x j with c1 | c1 | c1
        · rw [if_neg (by omega), if_pos c1, if_pos (by omega)]
        · subst c1; rw [if_pos rfl, if_pos (by omega), hstep]; simp
        · rw [if_neg (by omega), if_neg (by omega), if_neg (by omega)])
      rw [if_neg c, if_pos (by rw [chgL_len]; omega), er, w64 (by omega) (by omega), Int.toNat_natCast, el]
theorem ticks_ev {l : List ByteArray} {s : ByteArray} {tk : Nat} (h : litR l s = true) (ht : tk ≤ 20) {x : List Int} (hx : okL x) : ∀ (e q : Nat), q + e = tk →
    Ev (fun k => laws_FnLampsTick.l0 k x s (tk : Int) (tkN (tickS l) tk s) (timesR l s (tk : Int)).1 (tkN (tickS l) q s) (chgL l s q 0) (q : Int) l) true := by
  have hz := (lit_facts h).2.1
  have h10 := (lit_facts h).2.2.2.1
  obtain ⟨_, r2, r3⟩ := timesR_cnt h (show tk ≤ 1000000 by omega)
  intro e
  induction e with
  | zero =>
    intro q hq
    obtain rfl : q = tk := by omega
    have el : chgL l s q 0 = (timesR l s (q : Int)).1 := list_rd (by rw [chgL_len, r2]) (fun x hx => by
      rw [chgL_len] at hx
      rw [chgL_rd _ _ _ _ _ hx, if_neg (by omega), r3 x hx])
    obtain ⟨K1, h1⟩ := xSame_ev (timesR l s (q : Int)).1 (by omega)
    obtain ⟨K2, h2⟩ := times_ev h (show q ≤ 1000000 by omega) hx l.length 0 (by omega)
    refine ⟨K1 + K2 + 3, fun k hk => ?_⟩
    obtain ⟨k, rfl⟩ : ∃ m, k = m + 2 := ⟨k - 2, by omega⟩
    dsimp only
    have h1 := h1 (k + 1) (by omega)
    have h2 := h2 k (by omega)
    simp only at h1 h2
    rw [laws_FnLampsTick.l0, if_neg (by omega), if_pos rfl, el, h1, Option.bind_some, if_pos rfl, laws_FnLampsTick.j4]
    exact h2
  | succ e ih =>
    intro q hq
    have hlq := lit_tkN h q
    have hlq1 := lit_tkN h (q + 1)
    have hz1 := (lit_facts hlq).2.1
    have hz2 := (lit_facts hlq1).2.1
    have hone := one_ev h (show q < tk by omega) ht hx _ _ (ih (q + 1) (by omega)) l.length 0 (by omega)
    refine Ev.next (f := fun k => laws_FnLampsTick.j2 k x s (tk : Int) (tkN (tickS l) tk s) (timesR l s (tk : Int)).1 (tkN (tickS l) q s) (chgL l s q 0) (q : Int) (tkN (tickS l) (q + 1) s) false l) ⟨0, fun k _ => ?_⟩ (Ev.next ⟨0, fun k _ => ?_⟩ hone)
    · have ez : (((tickS l (tkN (tickS l) q s)).size : Int) != ((tkN (tickS l) q s).size : Int)) = false := by
        rw [bne_eq_false_iff_eq]
        have : (tkN (tickS l) (q + 1) s).size = (tickS l (tkN (tickS l) q s)).size := rfl
        omega
      rw [laws_FnLampsTick.l0, if_pos (by omega), implTickOnce_eq, tickR_lit hlq, Option.bind_some, if_pos rfl]
      simp only
      rw [ez]
      rfl
    · rw [laws_FnLampsTick.j2, if_neg (by simp)]
      rfl
theorem chgL_zero (l : List ByteArray) (s : ByteArray) (hz : l.length = s.size) : List.replicate ((s.size : Int) : Int).toNat (0 : Int) = chgL l s 0 0 := by
  apply list_rd
  · rw [chgL_len, List.length_replicate, Int.toNat_natCast, hz]
  · intro x hx
    rw [List.length_replicate, Int.toNat_natCast] at hx
    rw [chgL_rd _ _ _ _ _ (by omega), if_neg (by omega)]
    simp [rd, cntN, hx]
set_option maxHeartbeats 1000000 in
theorem FnLampsTick_pure (l0 : List Int) (l1 : List Int) (y0 : l0.length ≤ 9223372036854775807) (y1 : l1.length ≤ 9223372036854775807) (o0 : (∀ a ∈ l0, (Lit.int .u8 a).wf = true)) (o1 : (∀ a ∈ l1, (Lit.int .u8 a).wf = true)) : ∃ k, laws_FnLampsTick.f k l0 l1 = some true := by
  have hbig : ∃ b, laws_big.f l0 l1 = some b ∧ (b = false → (l0.length : Int) ≤ 1048576 ∧ (l1.length : Int) ≤ wrap64 (1048576 - (l0.length : Int))) := by
    unfold laws_big.f
    by_cases c : (l0.length : Int) > 1048576
    · exact ⟨true, by rw [if_pos c], fun h => by cases h⟩
    · refine ⟨_, by rw [if_neg c], fun h => ?_⟩
      have := of_decide_eq_false h
      exact ⟨by omega, by omega⟩
  obtain ⟨b, hbig, hb⟩ := hbig
  cases b with
  | true => exact ⟨0, by unfold laws_FnLampsTick.f; rw [hbig, Option.bind_some, if_pos rfl]⟩
  | false =>
  have cb := hb rfl
  have hw : wrap64 (1048576 - (l0.length : Int)) = 1048576 - (l0.length : Int) := w64 (by omega) (by omega)
  have h0 : okL l0 := ⟨by omega, fun a ha => by have := o0 a ha; exact u8_wf this⟩
  have hx : okL l1 := ⟨by omega, fun a ha => by have := o1 a ha; exact u8_wf this⟩
  obtain ⟨x, hxe⟩ : ∃ x, x = l1 := ⟨_, rfl⟩
  rw [← hxe] at hx
  obtain ⟨l, s, tk, Kd, hd⟩ := drawTicks_ok h0
  obtain ⟨K1, h1⟩ := implTicks_ev l s tk
  obtain ⟨K2, h2⟩ := specTicks_ev l s tk
  obtain ⟨K3, h3⟩ := implTimes_ev l s tk
  obtain ⟨K4, h4⟩ := specTimes_ev l s tk
  obtain ⟨K5, h5⟩ := xSame_ev (timesR l s tk).1 (by have := timesR_length l s tk; omega)
  have e2 : (timesR l s tk).2 = (ticksR l s tk).2 := by unfold timesR ticksR; by_cases c : litR l s = true ∧ inB tk 0 1000000 = true <;> simp [c]
  have e3 : spec_AreLamps.f l = some (areLampsB l) := by simp [spec_AreLamps.f, spec_laGood.f]
  have key : Ev (fun k => laws_FnLampsTick.j0 k x s tk (ticksR l s tk).1 (ticksR l s tk).2 (timesR l s tk).1 false l) true := by
    by_cases c : litR l s = true ∧ inB tk 0 1000000 = true
    · obtain ⟨h, ht⟩ := c
      have t0 := inB_lo ht
      have t1 := inB_hi ht
      obtain ⟨q, rfl⟩ : ∃ q : Nat, tk = q := ⟨tk.toNat, by omega⟩
      have hz := (lit_facts h).2.1
      have h10 := (lit_facts h).2.2.2.1
      obtain ⟨_, r2, r3⟩ := timesR_cnt h (show q ≤ 1000000 by omega)
      rw [ticksR_tk h (by omega)]
      by_cases c1 : (q : Int) ≤ 20
      · refine Ev.next ⟨0, fun k _ => ?_⟩ (ticks_ev h (show q ≤ 20 by omega) hx q 0 (by omega))
        rw [laws_FnLampsTick.j0, if_neg (by simp), if_pos rfl, if_pos (by omega), if_pos c1, if_pos (by omega), if_pos (by omega), chgL_zero l s hz]
        rfl
      · have hA := times_ev h (show q ≤ 1000000 by omega) hx l.length 0 (by omega)
        have hB : Ev (fun k => laws_FnLampsTick.j4 k x s (q : Int) (tkN (tickS l) q s) (timesR l s (q : Int)).1) true := Ev.next ⟨0, fun k _ => by rw [laws_FnLampsTick.j4]; rfl⟩ hA
        refine Ev.next ⟨0, fun k _ => ?_⟩ hB
        rw [laws_FnLampsTick.j0, if_neg (by simp), if_pos rfl, if_pos (by omega), if_neg c1]
    · have e : (ticksR l s tk).2 = false := by unfold ticksR; rw [if_neg c]
      refine Ev.next ⟨0, fun k _ => ?_⟩ (cycles_ev hx)
      rw [laws_FnLampsTick.j0, if_neg (by simp), e, if_neg (by simp)]
  obtain ⟨K6, h6⟩ := key
  refine ⟨K1 + K2 + K3 + K4 + K5 + K6 + Kd, ?_⟩
  have hd := hd (K1 + K2 + K3 + K4 + K5 + K6 + Kd) (by omega)
  have h1 := h1 (K1 + K2 + K3 + K4 + K5 + K6 + Kd) (by omega)
  have h2 := h2 (K1 + K2 + K3 + K4 + K5 + K6 + Kd) (by omega)
  have h3 := h3 (K1 + K2 + K3 + K4 + K5 + K6 + Kd) (by omega)
  have h4 := h4 (K1 + K2 + K3 + K4 + K5 + K6 + Kd) (by omega)
  have h5 := h5 (K1 + K2 + K3 + K4 + K5 + K6 + Kd) (by omega)
  have h6 := h6 (K1 + K2 + K3 + K4 + K5 + K6 + Kd) (by omega)
  simp only at hd h1 h2 h3 h4 h5 h6
  unfold laws_FnLampsTick.f
  rw [hbig, Option.bind_some, if_neg (by simp), hd, Option.bind_some]
  dsimp only
  rw [h1, h2, h3, h4]
  simp only [Option.bind_some, bne_self_eq_false, Bool.false_eq_true, if_false, if_true, h5, e2, impl_AreLamps.f, e3]
  rw [← hxe]
  by_cases c : (ticksR l s tk).2 = true
  · have ha : areLampsB l = true := by
      by_cases c2 : litR l s = true ∧ inB tk 0 1000000 = true
      · exact (lit_facts c2.1).1
      · unfold ticksR at c; rw [if_neg c2] at c; cases c
    rw [if_pos c, ha]
    exact h6
  · rw [if_neg c]
    exact h6
end Go.Proofs.YtiiahdjjngdgoaaDoor.Pure
