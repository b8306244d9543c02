/- What the printed functions answer, function by function: plain statements, without memory. (wip/after) -/
import Derived.Test.YtoipjbblnfnhoaaDoorPDoesFitx
import Derived.Test.YtoipjbblnfnhoaaDoorEv
import Derived.Test.YtoipjbblnfnhoaaDoorState
namespace Go.Proofs.YtoipjbblnfnhoaaDoor.PDoesFit
open Go.RowKit Go.Proofs.YtoipjbblnfnhoaaDoorW.PrintWords Go.Proofs.YtoipjbblnfnhoaaDoorW.PrintLast Go.Proofs.YtoipjbblnfnhoaaDoorW.PrintMore
set_option linter.unusedVariables false
set_option linter.unusedSimpArgs false
/-! ### after spec_riGood -/
theorem riGood_ev (s : ByteArray) : Ev (fun k => spec_riGood.f k s) (stateB s) := by
  have e1 : ∀ k, spec_riGood.f k s = if inB (s.size : Int) 1 20 = true then spec_riGood.l0 k s 0 else some false := by
    intro k
    simp only [spec_riGood.f, spec_l1In.f, inB_ite, Option.bind_some]
  refine Ev.congr e1 ?_
  unfold stateB
  cases h : inB (s.size : Int) 1 20
  · exact Ev.now _
  · have hs : s.size ≤ 20 := by have := inB_hi h; omega
    have hz : s.size = s.data.toList.length := Lib.size_eq s
    have := any_ev (fun k i => spec_riGood.l0 k s i) s.data.toList (fun b => !isBit b) false true (fun i hi => ⟨1, fun k hk => by
      obtain ⟨k, rfl⟩ : ∃ m, k = m + 1 := ⟨k - 1, by omega⟩
      have ew : wrap64 ((i : Int) + 1) = ((i + 1 : Nat) : Int) := by rw [w64 (by omega) (by omega)]; omega
      have eb := bt_nat s i hi
      rw [spec_riGood.l0, if_pos (by omega), if_pos (by omega), eb, ew]
      have q8 := byte_toInt s.data.toList[i] 48 (by omega)
      have q9 := byte_toInt s.data.toList[i] 49 (by omega)
      simp only [Int.cast_ofNat_Int] at q8 q9
      simp only [q8, q9, isBit]
      generalize s.data.toList[i] = b
      by_cases c8 : b = 48
      · simp [c8]
      · by_cases c9 : b = 49
        · simp [c9]
        · simp [c8, c9]⟩) (fun k => by rw [spec_riGood.l0, if_neg (by omega)])
    have ha : (!(s.data.toList.any fun b => !isBit b)) = s.data.toList.all isBit := by simp [List.all_eq_not_any_not]
    simp only [Bool.true_and, if_true]
    rw [← ha]
    cases hq : s.data.toList.any fun b => !isBit b <;> simpa [hq] using this

/-! ### after spec_pzHidden -/
theorem pzHidden_ev (s : ByteArray) : Ev (fun k => spec_pzHidden.f k s) (hiddenB s) := by
  obtain ⟨K, h⟩ := riGood_ev s
  refine ⟨K, fun k hk => ?_⟩
  have := h k hk
  simp only at this
  simp only [spec_pzHidden.f, this, Option.bind_some, hiddenB]
  cases stateB s
  · rfl
  · simp only [if_true, Bool.true_and]
    congr 1
    rw [Bool.eq_iff_iff]
    simp
    omega

/-! ### after spec_riOn -/
theorem riOn_l0 (s : ByteArray) (hs : s.size ≤ 1048576) : ∀ (n i : Nat) (acc : Nat), i + n = s.data.toList.length → acc ≤ i →
    Ev (fun k => spec_riOn.l0 k s (acc : Int) (i : Int)) ((acc + (s.data.toList.drop i).count 49 : Nat) : Int) := by
  have hz : s.size = s.data.toList.length := Lib.size_eq s
  intro n
  induction n with
  | zero =>
    intro i acc hi ha
    refine Ev.last fun k => ?_
    rw [spec_riOn.l0, if_neg (by omega), List.drop_of_length_le (by omega)]
    simp
  | succ n ih =>
    intro i acc hi ha
    have hi' : i < s.data.toList.length := by omega
    have eb := bt_nat s i hi'
    have q9 := byte_toInt s.data.toList[i] 49 (by omega)
    simp only [Int.cast_ofNat_Int] at q9
    have ew : wrap64 ((i : Int) + 1) = ((i + 1 : Nat) : Int) := by rw [w64 (by omega) (by omega)]; omega
    have ea : wrap64 ((acc : Int) + 1) = ((acc + 1 : Nat) : Int) := by rw [w64 (by omega) (by omega)]; omega
    have hd : s.data.toList.drop i = s.data.toList[i] :: s.data.toList.drop (i + 1) := (List.getElem_cons_drop hi').symm
    by_cases c : s.data.toList[i] = 49
    · have := ih (i + 1) (acc + 1) (by omega) (by omega)
      refine Ev.next (f := fun k => spec_riOn.l0 k s ((acc + 1 : Nat) : Int) ((i + 1 : Nat) : Int)) ⟨0, fun k _ => ?_⟩ ?_
      · rw [spec_riOn.l0, if_pos (by omega), if_pos (by omega), eb, if_pos (q9.mpr c), ew, ea]
      · rw [hd, c, List.count_cons_self]
        have e : acc + 1 + List.count 49 (List.drop (i + 1) s.data.toList) = acc + (List.count 49 (List.drop (i + 1) s.data.toList) + 1) := by omega
        rw [← e]; exact this
    · have := ih (i + 1) acc (by omega) (by omega)
      refine Ev.next (f := fun k => spec_riOn.l0 k s (acc : Int) ((i + 1 : Nat) : Int)) ⟨0, fun k _ => ?_⟩ ?_
      · rw [spec_riOn.l0, if_pos (by omega), if_pos (by omega), eb, if_neg (fun x => c (q9.mp x)), ew]
      · rw [hd, List.count_cons_of_ne (by exact c)]; exact this
theorem riOn_ev (s : ByteArray) (hs : s.size ≤ 1048576) : Ev (fun k => spec_riOn.f k s) (onN s : Int) := by
  have := riOn_l0 s hs s.data.toList.length 0 0 (by omega) (by omega)
  have h2 : Ev (fun k => spec_riOn.l0 k s 0 0) (onN s : Int) := by simpa [onN] using this
  exact h2

/-! ### after spec_riCan -/
theorem riCan_ev (s : ByteArray) (a : Int) (h : s.size ≤ 1048576) : Ev (fun k => spec_riCan.f k s a) (decide (a = 0) || inB a 1 ((s.size : Int) - 1) && decide (bt s (a - 1) = 49) && decide ((s.data.toList.take (a - 1).toNat).count 49 = 0)) := by
  have hz : s.size = s.data.toList.length := Lib.size_eq s
  by_cases h0 : a = 0
  · exact ⟨0, fun k _ => by simp [spec_riCan.f, h0]⟩
  · have ew : wrap64 ((s.size : Int) - 1) = (s.size : Int) - 1 := w64 (by omega) (by omega)
    cases hb : inB a 1 ((s.size : Int) - 1)
    · exact ⟨0, fun k _ => by simp [spec_riCan.f, h0, spec_l1In.f, inB_ite, ew, hb]⟩
    · have h1 := inB_lo hb
      have h2 := inB_hi hb
      have ea : wrap64 (a - 1) = a - 1 := w64 (by omega) (by omega)
      by_cases h49 : bt s (a - 1) = 49
      · have hx : (s.extract 0 (a - 1).toNat).size ≤ 1048576 := by
          rw [Lib.size_eq, extract_toNat, List.length_take]; omega
        obtain ⟨K, hK⟩ := riOn_ev (s.extract 0 (a - 1).toNat) hx
        refine ⟨K, fun k hk => ?_⟩
        simp only [spec_riCan.f, if_neg h0, spec_l1In.f, inB_ite, ew, hb, Option.bind_some, if_true, ea]
        rw [if_pos (by omega), if_pos (by omega), if_pos h49, if_pos (by omega), show spec_riOn.f k (s.extract 0 (a - 1).toNat) = _ from hK k hk]
        simp only [Option.bind_some, onN, extract_toNat, h0, h49, decide_true, decide_false, Bool.false_or, Bool.true_and]
        congr 1
        rw [Bool.eq_iff_iff]
        simp
      · refine ⟨0, fun k _ => ?_⟩
        simp only [spec_riCan.f, if_neg h0, spec_l1In.f, inB_ite, ew, hb, Option.bind_some, if_true, ea]
        rw [if_pos (by omega), if_pos (by omega), if_neg h49]
        simp [h0, h49]

/-! ### after impl_IsState -/
theorem isState_eq (s : ByteArray) (h : s.size ≤ 9223372036854775807) : impl_IsState.f s = some (stateB s) := by
  have ht : strings_Trim.f s (⟨#[48, 49]⟩ : ByteArray) = some ⟨(Lib.trimS s.data.toList [48, 49]).toArray⟩ := by
    unfold strings_Trim.f
    rw [if_pos ⟨h, by decide, by decide⟩]
  simp only [impl_IsState.f, impl_in.f, inB_ite, Option.bind_some, ht, trimS_beq, isBit_contains, stateB]
  cases inB (s.size : Int) 1 20 <;> simp

/-! ### after impl_isHidden -/
theorem isHidden_eq (s : ByteArray) (h : s.size ≤ 9223372036854775807) : impl_isHidden.f s = some (hiddenB s) := by
  simp only [impl_isHidden.f, isState_eq s h, Option.bind_some, hiddenB]
  cases stateB s
  · rfl
  · simp only [if_true, Bool.true_and]
    congr 1
    rw [Bool.eq_iff_iff]
    simp
    omega

/-! ### after impl_IsClue -/
theorem pzClueA_eq (n : Nat) (r k a b : Int) (h : 0 ≤ r) : spec_pzClue.f (n + 1) r k a b = some (clueB r k a b) := by
  simp only [spec_pzClue.f, spec_pzClue.j0, spec_l1In.f, inB_ite, Option.bind_some, and_some, clueB]
  by_cases h0 : k = 0
  · simp [h0]
  · by_cases h4 : k = 4
    · simp [h4]
    · by_cases h1 : k = 1
      · simp [h1]
      · by_cases h2 : k = 2
        · simp [h2]
        · by_cases h3 : k = 3
          · simp [h3, h]
          · simp [h0, h1, h2, h3, h4]
theorem implClueA_j0 (k : Nat) (a b : Int) (t : Bool) (c d e : Int) : impl_IsClue.j0 k a b t c d e = spec_pzClue.j0 k a b t c d e := by
  cases k with
  | zero => rfl
  | succ k => rfl
theorem implClueA_eq (n : Nat) (r k a b : Int) : impl_IsClue.f (n + 1) r k a b = some (isClueB r k a b) := by
  simp only [impl_IsClue.f, impl_in.f, inB_ite, Option.bind_some, isClueB, implClueA_j0]
  cases h : inB r 1 7
  · rfl
  · have := pzClueA_eq n r k a b (by have := inB_lo h; omega)
    simp only [spec_pzClue.f] at this
    simp [this]

/-! ### after impl_CountOn -/
theorem countOn_eq (s : ByteArray) (h : s.size ≤ 1048576) (hst : stateB s = true) : impl_CountOn.f s = some ((onN s : Int), true) := by
  have hc : strings_Count.f s (⟨#[49]⟩ : ByteArray) = some (onN s : Int) := by
    unfold strings_Count.f
    rw [if_pos (by decide)]
    rfl
  simp only [impl_CountOn.f, isState_eq s (by omega), hst, Option.bind_some, hc, if_true]

/-! ### after impl_canMove -/
theorem canMove_eq (s : ByteArray) (a : Int) (h : s.size ≤ 1048576) (hst : s.data.toList.all isBit = true) : impl_canMove.f s a = some (canB s a) := by
  have hz : s.size = s.data.toList.length := Lib.size_eq s
  unfold canB
  by_cases h0 : a = 0
  · simp [impl_canMove.f, h0]
  · have ew : wrap64 ((s.size : Int) - 1) = (s.size : Int) - 1 := w64 (by omega) (by omega)
    simp only [impl_canMove.f, impl_in.f, inB_ite, Option.bind_some, ew, if_neg h0]
    cases hb : inB a 1 ((s.size : Int) - 1)
    · simp [h0]
    · have h1 := inB_lo hb
      have h2 := inB_hi hb
      have ea : wrap64 (a - 1) = a - 1 := w64 (by omega) (by omega)
      rw [ea, if_pos rfl, if_pos (by omega), if_pos (by omega), if_pos (show a - 1 ≤ (s.size : Int) by omega)]
      by_cases h49 : bt s (a - 1) = 49
      · have hx : (s.extract 0 (a - 1).toNat).size ≤ 9223372036854775807 := by
          rw [Lib.size_eq, extract_toNat, List.length_take]; omega
        have ht : strings_Trim.f (s.extract 0 (a - 1).toNat) (⟨#[48]⟩ : ByteArray) = some ⟨(Lib.trimS (s.data.toList.take (a - 1).toNat) [48]).toArray⟩ := by
          unfold strings_Trim.f
          rw [if_pos ⟨hx, by decide, by decide⟩, extract_toNat]
        rw [if_pos h49, ht]
        simp only [Option.bind_some, trimS_beq]
        congr 1
        have hall : ∀ b ∈ s.data.toList.take (a - 1).toNat, isBit b = true := fun b hb => List.all_eq_true.1 hst b (List.mem_of_mem_take hb)
        generalize s.data.toList.take (a - 1).toNat = l at hall
        simp only [h0, decide_false, Bool.false_or, h49, decide_true, Bool.true_and]
        induction l with
        | nil => rfl
        | cons b l ih =>
          have hb1 := hall b (by simp)
          have ih' := ih (fun x hx => hall x (by simp [hx]))
          simp only [isBit, Bool.or_eq_true, beq_iff_eq] at hb1
          rcases hb1 with rfl | rfl
          · simpa using ih'
          · simp
      · simp [h49, h0]

/-! ### after impl_Clue_fits -/
theorem riCan_evB (s : ByteArray) (a : Int) (h : s.size ≤ 1048576) : Ev (fun k => spec_riCan.f k s a) (canB s a) := riCan_ev s a h
def numChk (l : List UInt8) : Bool :=
  match impl_number.f 12 ⟨l.toArray⟩, spec_riNumber.f 12 ⟨l.toArray⟩ with
  | some a, some b => a == b && decide (0 ≤ a) && decide (a < 128)
  | _, _ => false
theorem num_all : ((List.range 8).all fun n => (allS n).all numChk) = true := by decide +kernel
def numB (s : ByteArray) : Int := (impl_number.f 12 s).getD 0
theorem numB_ev (s : ByteArray) (hs : s.size ≤ 7) (hb : s.data.toList.all isBit = true) : 0 ≤ numB s ∧ numB s < 128 ∧ Ev (fun k => impl_number.f k s) (numB s) ∧ Ev (fun k => spec_riNumber.f k s) (numB s) := by
  have hz : s.size = s.data.toList.length := Lib.size_eq s
  have h1 := List.all_eq_true.1 num_all s.data.toList.length (List.mem_range.2 (by omega))
  have h2 := List.all_eq_true.1 h1 _ (mem_allS _ hb)
  have e : (⟨s.data.toList.toArray⟩ : ByteArray) = s := by simp
  unfold numChk at h2
  rw [e] at h2
  unfold numB
  split at h2
  · rename_i a b ha hb'
    simp only [Bool.and_eq_true, beq_iff_eq, decide_eq_true_eq] at h2
    obtain ⟨⟨rfl, h3⟩, h4⟩ := h2
    rw [ha]
    exact ⟨h3, h4, Ev.of (impl_number.mono s) ha, Ev.of (spec_riNumber.mono s) hb'⟩
  · cases h2
/-- What a clue of a kind tells of a state. -/
def valB (k a : Int) (s : ByteArray) : Int := if k = 0 then (bt s a - 48) % 256 else if k = 1 then (onN s : Int) else if k = 2 then Int.tmod (numB s) a else if k = 3 then (if numB s - a > a - numB s then numB s - a else a - numB s) else (if canB s a = true then 1 else 0)
def fitsB (k a b : Int) (s : ByteArray) : Bool := if k = 1 then valB 1 0 s == a else valB k a s == b
theorem pzValue_ev (k a : Int) (s : ByteArray) (hs : s.size ≤ 7) (hb : s.data.toList.all isBit = true) (ha : okArg s.size k a) : Ev (fun n => spec_pzValue.f n k a s) (valB k a s) := by
  obtain ⟨n0, n1, _, K, hn⟩ := numB_ev s hs hb
  obtain ⟨K2, h2⟩ := riOn_ev s (by omega)
  obtain ⟨K3, h3⟩ := riCan_evB s a (by omega)
  unfold valB
  unfold okArg at ha
  refine ⟨K + K2 + K3, fun n hk => ?_⟩
  have hn := hn n (by omega)
  have h2 := h2 n (by omega)
  have h3 := h3 n (by omega)
  simp only at hn h2 h3
  by_cases c0 : k = 0
  · subst c0
    simp only [true_or, if_true] at ha
    simp only [spec_pzValue.f, if_true]
    rw [if_pos (by omega), if_pos (by omega)]
  · by_cases c1 : k = 1
    · subst c1
      simp [spec_pzValue.f, h2]
    · by_cases c2 : k = 2
      · subst c2
        simp only [show ¬ ((2 : Int) = 0 ∨ (2 : Int) = 4) by decide, if_false, if_true] at ha
        have : ¬ a = 0 := by omega
        simp [spec_pzValue.f, hn, this]
      · by_cases c3 : k = 3
        · subst c3
          simp only [show ¬ ((3 : Int) = 0 ∨ (3 : Int) = 4) by decide, show ¬ ((3 : Int) = 2) by decide, if_false, if_true] at ha
          have e1 : wrap64 (numB s - a) = numB s - a := w64 (by omega) (by omega)
          have e2 : wrap64 (-(numB s - a)) = a - numB s := by rw [w64 (by omega) (by omega)]; omega
          simp only [spec_pzValue.f, hn, c0, c1, c2, if_false, if_true, Option.bind_some, spec_l1Abs.f, spec_l1Most.f, e1, e2]
          split <;> rfl
        · simp only [spec_pzValue.f, c0, c1, c2, c3, if_false, h3, Option.bind_some]
          cases canB s a <;> rfl
theorem told_ev (k a b : Int) (s : ByteArray) (hs : s.size ≤ 7) (hst : stateB s = true) (ha : okArg s.size k a) (h4 : 0 ≤ k ∧ k ≤ 4) : Ev (fun n => impl_Clue_told.f n k a b s) (k, if k = 1 then valB 1 0 s else a, if k = 1 then 0 else valB k a s) := by
  have hb : s.data.toList.all isBit = true := by unfold stateB at hst; simp only [Bool.and_eq_true] at hst; exact hst.2
  obtain ⟨n0, n1, ⟨K, hn⟩, _⟩ := numB_ev s hs hb
  have h2 := countOn_eq s (by omega) hst
  have h3 := canMove_eq s a (by omega) hb
  unfold valB
  unfold okArg at ha
  refine ⟨K, fun n hk => ?_⟩
  have hn := hn n (by omega)
  simp only at hn
  by_cases c0 : k = 0
  · subst c0
    simp only [true_or, if_true] at ha
    simp only [impl_Clue_told.f, if_true, impl_Clue_told_S1.f]
    rw [if_pos (by omega), if_pos (by omega)]
    have hz : s.size = s.data.toList.length := Lib.size_eq s
    obtain ⟨i, rfl⟩ : ∃ i : Nat, a = i := ⟨a.toNat, by omega⟩
    have hi : i < s.data.toList.length := by omega
    have hbi := List.all_eq_true.1 hb _ (List.getElem_mem hi)
    rw [bt_nat s i hi]
    simp only [isBit, Bool.or_eq_true, beq_iff_eq] at hbi
    rcases hbi with e | e <;> rw [e] <;> rfl
  · by_cases c1 : k = 1
    · subst c1
      simp [impl_Clue_told.f, h2]
    · by_cases c2 : k = 2
      · subst c2
        simp only [show ¬ ((2 : Int) = 0 ∨ (2 : Int) = 4) by decide, if_false, if_true] at ha
        have : ¬ a = 0 := by omega
        simp [impl_Clue_told.f, hn, this]
      · by_cases c3 : k = 3
        · subst c3
          simp only [show ¬ ((3 : Int) = 0 ∨ (3 : Int) = 4) by decide, show ¬ ((3 : Int) = 2) by decide, if_false, if_true] at ha
          have e1 : wrap64 (numB s - a) = numB s - a := w64 (by omega) (by omega)
          have e2 : wrap64 (a - numB s) = a - numB s := w64 (by omega) (by omega)
          simp only [impl_Clue_told.f, hn, c0, c1, c2, if_false, if_true, Option.bind_some, impl_apart.f, e1, e2, mx]
          congr 3
          split <;> split <;> omega
        · have c4 : k = 4 := by omega
          simp only [impl_Clue_told.f, c0, c1, c2, c3, c4, if_false, if_true, h3, Option.bind_some, impl_Clue_told_S1.f]
          cases canB s a <;> rfl
theorem fits_ev (k a b : Int) (s : ByteArray) (hs : s.size ≤ 7) (hst : stateB s = true) (hc : clueB s.size k a b = true) :
    Ev (fun n => spec_pzFits.f n k a b s) (fitsB k a b s) ∧ Ev (fun n => impl_Clue_fits.f n k a b s) (fitsB k a b s) := by
  have hb := stateB_bits hst
  have h1 : 1 ≤ (s.size : Int) := by unfold stateB at hst; simp only [Bool.and_eq_true] at hst; exact inB_lo hst.1
  obtain ⟨ha, hk0, hk4, hk1⟩ := okArg_of h1 (by omega) hc
  obtain ⟨K, ht⟩ := told_ev k a b s hs hst ha ⟨hk0, hk4⟩
  unfold fitsB
  by_cases c1 : k = 1
  · subst c1
    obtain ⟨K2, hv⟩ := pzValue_ev 1 0 s hs hb (by simp [okArg])
    refine ⟨⟨K2, fun n hn => ?_⟩, ⟨K, fun n hn => ?_⟩⟩
    · have := hv n hn
      simp only at this
      simp [spec_pzFits.f, this]
    · have := ht n hn
      simp only [if_true] at this
      have e := hk1 rfl
      subst e
      simp [impl_Clue_fits.f, this]
  · obtain ⟨K2, hv⟩ := pzValue_ev k a s hs hb ha
    refine ⟨⟨K2, fun n hn => ?_⟩, ⟨K, fun n hn => ?_⟩⟩
    · have := hv n hn
      simp only at this
      simp [spec_pzFits.f, this, c1]
    · have := ht n hn
      simp only [if_neg c1] at this
      simp [impl_Clue_fits.f, this, c1]

end Go.Proofs.YtoipjbblnfnhoaaDoor.PDoesFit
