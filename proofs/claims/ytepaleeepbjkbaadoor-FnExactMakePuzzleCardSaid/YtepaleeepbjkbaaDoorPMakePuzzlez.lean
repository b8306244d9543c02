/- What the printed functions answer, function by function: plain statements, without memory. (wip/after) -/
import Derived.Test.YtepaleeepbjkbaaDoorPMakePuzzlex
import Derived.Test.YtepaleeepbjkbaaDoorEv
import Derived.Test.YtepaleeepbjkbaaDoorState
namespace Go.Proofs.YtepaleeepbjkbaaDoor.PMakePuzzle
open Go.RowKit Go.Proofs.YtepaleeepbjkbaaDoorW.PrintWords Go.Proofs.YtepaleeepbjkbaaDoorW.PrintLast Go.Proofs.YtepaleeepbjkbaaDoorW.PrintMore
set_option linter.unusedVariables false
set_option linter.unusedSimpArgs false
/-! ### after laws_eqClueS -/
theorem laws_eqClueS.ev (l : List S101) (hl : l.length ≤ 9223372036854775807) : Ev (fun k => laws_eqClueS.f k l l) true := by
  unfold laws_eqClueS.f
  refine Ev.congr (f := fun k => laws_eqClueS.l0 k l l 0) (fun k => if_pos rfl) ?_
  refine eq_ev laws_eqClueS.l0 ?_ ?_ l hl
  · intro l i h hl
    refine ⟨0, fun k _ => ?_⟩
    have ew : wrap64 ((i : Int) + 1) = ((i + 1 : Nat) : Int) := by rw [w64 (by omega) (by omega)]; omega
    rw [laws_eqClueS.l0, if_pos (by omega), if_pos (by omega), if_pos (by omega)]
    simp [laws_eqClue.f, ew]
  · intro k l
    rw [laws_eqClueS.l0, if_neg (by omega)]


/-! ### after laws_markClueS -/
theorem laws_markClueS.ev (l : List S101) (a : Int) (h0 : 0 ≤ a) (hB : a + 3 * l.length ≤ 4611686018427387904) : Ev (fun k => laws_markClueS.f k l a) (a + 3 * l.length, marks (fun a : Int => (⟨a, a + 1, a + 2⟩ : S101)) 3 l.length a) := by
  unfold laws_markClueS.f
  refine mark_ev laws_markClueS.l0 (fun a : Int => (⟨a, a + 1, a + 2⟩ : S101)) 3 4611686018427387904 ?_ ?_ l a h0 hB (by omega)
  · intro l a i h h0 hB hl
    refine ⟨0, fun k _ => ?_⟩
    have ew : wrap64 ((i : Int) + 1) = ((i + 1 : Nat) : Int) := by rw [w64 (by omega) (by omega)]; omega
    have e1 : wrap64 (a + 1) = a + 1 := w64 (by omega) (by omega)
    have e2 : wrap64 (a + 2) = a + 2 := w64 (by omega) (by omega)
    have e3 : wrap64 (a + 3) = a + 3 := w64 (by omega) (by omega)
    rw [laws_markClueS.l0, if_pos (by omega), if_pos (by omega)]
    simp [ew, Int.add_assoc, rd_T101, List.set_set, h, e1, e2, e3]
  · intro k l a
    rw [laws_markClueS.l0, if_neg (by omega)]


/-! ### after laws_heldClueS -/
theorem laws_heldClueS.ev (n : Nat) (a : Int) (h0 : 0 ≤ a) (hB : a + 3 * n ≤ 4611686018427387904) : Ev (fun k => laws_heldClueS.f k (marks (fun a : Int => (⟨a, a + 1, a + 2⟩ : S101)) 3 n a) a) (a + 3 * n) := by
  unfold laws_heldClueS.f
  refine held_ev laws_heldClueS.l0 (fun a : Int => (⟨a, a + 1, a + 2⟩ : S101)) 3 4611686018427387904 ?_ ?_ n a h0 hB (by omega)
  · intro l a i h h0 hB hl hv
    refine ⟨0, fun k _ => ?_⟩
    have ew : wrap64 ((i : Int) + 1) = ((i + 1 : Nat) : Int) := by rw [w64 (by omega) (by omega)]; omega
    have e1 : wrap64 (a + 1) = a + 1 := w64 (by omega) (by omega)
    have e2 : wrap64 (a + 2) = a + 2 := w64 (by omega) (by omega)
    have e3 : wrap64 (a + 3) = a + 3 := w64 (by omega) (by omega)
    have e : rd_T101 l (i : Int) = l[i] := by simp [rd_T101, h]
    rw [laws_heldClueS.l0, if_pos (by omega), if_pos (by omega)]
    simp [e, hv, ew, Int.add_assoc, e1, e2, e3]
  · intro k l a
    rw [laws_heldClueS.l0, if_neg (by omega)]

/-! ### after laws_eqPuzzle -/
theorem eqPuzzle_ev (r : Int) (l : List S101) (hl : l.length ≤ 9223372036854775807) : Ev (fun k => laws_eqPuzzle.f k r l r l) true := by
  obtain ⟨K, hK⟩ := laws_eqClueS.ev l hl
  exact ⟨K, fun k hk => by simp [laws_eqPuzzle.f, hK k hk]⟩

/-! ### after laws_markPuzzle -/
def markedClues (n : Nat) : List S101 := marks (fun a : Int => (⟨a, a + 1, a + 2⟩ : S101)) 3 n 1
theorem markPuzzle_ev (r : Int) (l : List S101) (hl : l.length ≤ 1048577) : Ev (fun k => laws_markPuzzle.f k r l 1) (1 + 3 * l.length, markedClues l.length) := by
  obtain ⟨K, hK⟩ := laws_markClueS.ev l 1 (by omega) (by omega)
  exact ⟨K, fun k hk => by simp [laws_markPuzzle.f, hK k hk, markedClues]⟩

/-! ### after laws_heldPuzzle -/
theorem heldPuzzle_ev (r : Int) (n : Nat) (hl : n ≤ 1048577) : Ev (fun k => laws_heldPuzzle.f k r (markedClues n) 1) (1 + 3 * n) := by
  obtain ⟨K, hK⟩ := laws_heldClueS.ev n 1 (by omega) (by omega)
  exact ⟨K, fun k hk => by
    simp only [laws_heldPuzzle.f, markedClues, hK k hk, Option.bind_some]
    rw [if_neg (by omega)]⟩

/-! ### after spec_riGood -/
theorem riGood_ev (s : ByteArray) : Ev (fun k => spec_riGood.f k s) (stateB s) := by
  have e1 : ∀ k, spec_riGood.f k s = if inB (s.size : Int) 1 20 = true then spec_riGood.l0 k s 0 else some false := by
    intro k
    simp only [spec_riGood.f, spec_l1In.f, inB_ite, Option.bind_some]
  refine Ev.congr e1 ?_
  unfold stateB
  cases h : inB (s.size : Int) 1 20
  · exact Ev.now _
  · have hs : s.size ≤ 20 := by have := inB_hi h; omega
    have hz : s.size = s.data.toList.length := Lib.size_eq s
    have := any_ev (fun k i => spec_riGood.l0 k s i) s.data.toList (fun b => !isBit b) false true (fun i hi => ⟨1, fun k hk => by
      obtain ⟨k, rfl⟩ : ∃ m, k = m + 1 := ⟨k - 1, by omega⟩
      have ew : wrap64 ((i : Int) + 1) = ((i + 1 : Nat) : Int) := by rw [w64 (by omega) (by omega)]; omega
      have eb := bt_nat s i hi
      rw [spec_riGood.l0, if_pos (by omega), if_pos (by omega), eb, ew]
      have q8 := byte_toInt s.data.toList[i] 48 (by omega)
      have q9 := byte_toInt s.data.toList[i] 49 (by omega)
      simp only [Int.cast_ofNat_Int] at q8 q9
      simp only [q8, q9, isBit]
      generalize s.data.toList[i] = b
      by_cases c8 : b = 48
      · simp [c8]
      · by_cases c9 : b = 49
        · simp [c9]
        · simp [c8, c9]⟩) (fun k => by rw [spec_riGood.l0, if_neg (by omega)])
    have ha : (!(s.data.toList.any fun b => !isBit b)) = s.data.toList.all isBit := by simp [List.all_eq_not_any_not]
    simp only [Bool.true_and, if_true]
    rw [← ha]
    cases hq : s.data.toList.any fun b => !isBit b <;> simpa [hq] using this

/-! ### after impl_IsState -/
theorem isState_eq (s : ByteArray) (h : s.size ≤ 9223372036854775807) : impl_IsState.f s = some (stateB s) := by
  have ht : strings_Trim.f s (⟨#[48, 49]⟩ : ByteArray) = some ⟨(Lib.trimS s.data.toList [48, 49]).toArray⟩ := by
    unfold strings_Trim.f
    rw [if_pos ⟨h, by decide, by decide⟩]
  simp only [impl_IsState.f, impl_in.f, inB_ite, Option.bind_some, ht, trimS_beq, isBit_contains, stateB]
  cases inB (s.size : Int) 1 20 <;> simp

/-! ### after spec_riOn -/
theorem riOn_l0 (s : ByteArray) (hs : s.size ≤ 1048576) : ∀ (n i : Nat) (acc : Nat), i + n = s.data.toList.length → acc ≤ i →
    Ev (fun k => spec_riOn.l0 k s (acc : Int) (i : Int)) ((acc + (s.data.toList.drop i).count 49 : Nat) : Int) := by
  have hz : s.size = s.data.toList.length := Lib.size_eq s
  intro n
  induction n with
  | zero =>
    intro i acc hi ha
    refine Ev.last fun k => ?_
    rw [spec_riOn.l0, if_neg (by omega), List.drop_of_length_le (by omega)]
    simp
  | succ n ih =>
    intro i acc hi ha
    have hi' : i < s.data.toList.length := by omega
    have eb := bt_nat s i hi'
    have q9 := byte_toInt s.data.toList[i] 49 (by omega)
    simp only [Int.cast_ofNat_Int] at q9
    have ew : wrap64 ((i : Int) + 1) = ((i + 1 : Nat) : Int) := by rw [w64 (by omega) (by omega)]; omega
    have ea : wrap64 ((acc : Int) + 1) = ((acc + 1 : Nat) : Int) := by rw [w64 (by omega) (by omega)]; omega
    have hd : s.data.toList.drop i = s.data.toList[i] :: s.data.toList.drop (i + 1) := (List.getElem_cons_drop hi').symm
    by_cases c : s.data.toList[i] = 49
    · have := ih (i + 1) (acc + 1) (by omega) (by omega)
      refine Ev.next (f := fun k => spec_riOn.l0 k s ((acc + 1 : Nat) : Int) ((i + 1 : Nat) : Int)) ⟨0, fun k _ => ?_⟩ ?_
      · rw [spec_riOn.l0, if_pos (by omega), if_pos (by omega), eb, if_pos (q9.mpr c), ew, ea]
      · rw [hd, c, List.count_cons_self]
        have e : acc + 1 + List.count 49 (List.drop (i + 1) s.data.toList) = acc + (List.count 49 (List.drop (i + 1) s.data.toList) + 1) := by omega
        rw [← e]; exact this
    · have := ih (i + 1) acc (by omega) (by omega)
      refine Ev.next (f := fun k => spec_riOn.l0 k s (acc : Int) ((i + 1 : Nat) : Int)) ⟨0, fun k _ => ?_⟩ ?_
      · rw [spec_riOn.l0, if_pos (by omega), if_pos (by omega), eb, if_neg (fun x => c (q9.mp x)), ew]
      · rw [hd, List.count_cons_of_ne (by exact c)]; exact this
theorem riOn_ev (s : ByteArray) (hs : s.size ≤ 1048576) : Ev (fun k => spec_riOn.f k s) (onN s : Int) := by
  have := riOn_l0 s hs s.data.toList.length 0 0 (by omega) (by omega)
  have h2 : Ev (fun k => spec_riOn.l0 k s 0 0) (onN s : Int) := by simpa [onN] using this
  exact h2

/-! ### after impl_CountOn -/
theorem countOn_eq (s : ByteArray) (h : s.size ≤ 1048576) (hst : stateB s = true) : impl_CountOn.f s = some ((onN s : Int), true) := by
  have hc : strings_Count.f s (⟨#[49]⟩ : ByteArray) = some (onN s : Int) := by
    unfold strings_Count.f
    rw [if_pos (by decide)]
    rfl
  simp only [impl_CountOn.f, isState_eq s (by omega), hst, Option.bind_some, hc, if_true]

/-! ### after impl_canMove -/
theorem canMove_eq (s : ByteArray) (a : Int) (h : s.size ≤ 1048576) (hst : s.data.toList.all isBit = true) : impl_canMove.f s a = some (canB s a) := by
  have hz : s.size = s.data.toList.length := Lib.size_eq s
  unfold canB
  by_cases h0 : a = 0
  · simp [impl_canMove.f, h0]
  · have ew : wrap64 ((s.size : Int) - 1) = (s.size : Int) - 1 := w64 (by omega) (by omega)
    simp only [impl_canMove.f, impl_in.f, inB_ite, Option.bind_some, ew, if_neg h0]
    cases hb : inB a 1 ((s.size : Int) - 1)
    · simp [h0]
    · have h1 := inB_lo hb
      have h2 := inB_hi hb
      have ea : wrap64 (a - 1) = a - 1 := w64 (by omega) (by omega)
      rw [ea, if_pos rfl, if_pos (by omega), if_pos (by omega), if_pos (show a - 1 ≤ (s.size : Int) by omega)]
      by_cases h49 : bt s (a - 1) = 49
      · have hx : (s.extract 0 (a - 1).toNat).size ≤ 9223372036854775807 := by
          rw [Lib.size_eq, extract_toNat, List.length_take]; omega
        have ht : strings_Trim.f (s.extract 0 (a - 1).toNat) (⟨#[48]⟩ : ByteArray) = some ⟨(Lib.trimS (s.data.toList.take (a - 1).toNat) [48]).toArray⟩ := by
          unfold strings_Trim.f
          rw [if_pos ⟨hx, by decide, by decide⟩, extract_toNat]
        rw [if_pos h49, ht]
        simp only [Option.bind_some, trimS_beq]
        congr 1
        have hall : ∀ b ∈ s.data.toList.take (a - 1).toNat, isBit b = true := fun b hb => List.all_eq_true.1 hst b (List.mem_of_mem_take hb)
        generalize s.data.toList.take (a - 1).toNat = l at hall
        simp only [h0, decide_false, Bool.false_or, h49, decide_true, Bool.true_and]
        induction l with
        | nil => rfl
        | cons b l ih =>
          have hb1 := hall b (by simp)
          have ih' := ih (fun x hx => hall x (by simp [hx]))
          simp only [isBit, Bool.or_eq_true, beq_iff_eq] at hb1
          rcases hb1 with rfl | rfl
          · simpa using ih'
          · simp
      · simp [h49, h0]

/-! ### after spec_riCan -/
theorem riCan_ev (s : ByteArray) (a : Int) (h : s.size ≤ 1048576) : Ev (fun k => spec_riCan.f k s a) (decide (a = 0) || inB a 1 ((s.size : Int) - 1) && decide (bt s (a - 1) = 49) && decide ((s.data.toList.take (a - 1).toNat).count 49 = 0)) := by
  have hz : s.size = s.data.toList.length := Lib.size_eq s
  by_cases h0 : a = 0
  · exact ⟨0, fun k _ => by simp [spec_riCan.f, h0]⟩
  · have ew : wrap64 ((s.size : Int) - 1) = (s.size : Int) - 1 := w64 (by omega) (by omega)
    cases hb : inB a 1 ((s.size : Int) - 1)
    · exact ⟨0, fun k _ => by simp [spec_riCan.f, h0, spec_l1In.f, inB_ite, ew, hb]⟩
    · have h1 := inB_lo hb
      have h2 := inB_hi hb
      have ea : wrap64 (a - 1) = a - 1 := w64 (by omega) (by omega)
      by_cases h49 : bt s (a - 1) = 49
      · have hx : (s.extract 0 (a - 1).toNat).size ≤ 1048576 := by
          rw [Lib.size_eq, extract_toNat, List.length_take]; omega
        obtain ⟨K, hK⟩ := riOn_ev (s.extract 0 (a - 1).toNat) hx
        refine ⟨K, fun k hk => ?_⟩
        simp only [spec_riCan.f, if_neg h0, spec_l1In.f, inB_ite, ew, hb, Option.bind_some, if_true, ea]
        rw [if_pos (by omega), if_pos (by omega), if_pos h49, if_pos (by omega), show spec_riOn.f k (s.extract 0 (a - 1).toNat) = _ from hK k hk]
        simp only [Option.bind_some, onN, extract_toNat, h0, h49, decide_true, decide_false, Bool.false_or, Bool.true_and]
        congr 1
        rw [Bool.eq_iff_iff]
        simp
      · refine ⟨0, fun k _ => ?_⟩
        simp only [spec_riCan.f, if_neg h0, spec_l1In.f, inB_ite, ew, hb, Option.bind_some, if_true, ea]
        rw [if_pos (by omega), if_pos (by omega), if_neg h49]
        simp [h0, h49]

/-! ### after impl_Clue_told -/
theorem riCan_evB (s : ByteArray) (a : Int) (h : s.size ≤ 1048576) : Ev (fun k => spec_riCan.f k s a) (canB s a) := riCan_ev s a h
def numChk (l : List UInt8) : Bool :=
  match impl_number.f 12 ⟨l.toArray⟩, spec_riNumber.f 12 ⟨l.toArray⟩ with
  | some a, some b => a == b && decide (0 ≤ a) && decide (a < 128)
  | _, _ => false
theorem num_all : ((List.range 8).all fun n => (allS n).all numChk) = true := by decide +kernel
def numB (s : ByteArray) : Int := (impl_number.f 12 s).getD 0
theorem numB_ev (s : ByteArray) (hs : s.size ≤ 7) (hb : s.data.toList.all isBit = true) : 0 ≤ numB s ∧ numB s < 128 ∧ (∀ k, 12 ≤ k → impl_number.f k s = some (numB s)) ∧ Ev (fun k => spec_riNumber.f k s) (numB s) := by
  have hz : s.size = s.data.toList.length := Lib.size_eq s
  have h1 := List.all_eq_true.1 num_all s.data.toList.length (List.mem_range.2 (by omega))
  have h2 := List.all_eq_true.1 h1 _ (mem_allS _ hb)
  have e : (⟨s.data.toList.toArray⟩ : ByteArray) = s := by simp
  unfold numChk at h2
  rw [e] at h2
  unfold numB
  split at h2
  · rename_i a b ha hb'
    simp only [Bool.and_eq_true, beq_iff_eq, decide_eq_true_eq] at h2
    obtain ⟨⟨rfl, h3⟩, h4⟩ := h2
    rw [ha]
    exact ⟨h3, h4, fun k hk => at_rounds (impl_number.mono s) hk ha, Ev.of (spec_riNumber.mono s) hb'⟩
  · cases h2
/-- What a clue of a kind tells of a state. -/
def valB (k a : Int) (s : ByteArray) : Int := if k = 0 then (bt s a - 48) % 256 else if k = 1 then (onN s : Int) else if k = 2 then Int.tmod (numB s) a else if k = 3 then (if numB s - a > a - numB s then numB s - a else a - numB s) else (if canB s a = true then 1 else 0)
def fitsB (k a b : Int) (s : ByteArray) : Bool := if k = 1 then valB 1 0 s == a else valB k a s == b
theorem pzValue_ev (k a : Int) (s : ByteArray) (hs : s.size ≤ 7) (hb : s.data.toList.all isBit = true) (ha : okArg s.size k a) : Ev (fun n => spec_pzValue.f n k a s) (valB k a s) := by
  obtain ⟨n0, n1, _, K, hn⟩ := numB_ev s hs hb
  obtain ⟨K2, h2⟩ := riOn_ev s (by omega)
  obtain ⟨K3, h3⟩ := riCan_evB s a (by omega)
  unfold valB
  unfold okArg at ha
  refine ⟨K + K2 + K3, fun n hk => ?_⟩
  have hn := hn n (by omega)
  have h2 := h2 n (by omega)
  have h3 := h3 n (by omega)
  simp only at hn h2 h3
  by_cases c0 : k = 0
  · subst c0
    simp only [true_or, if_true] at ha
    simp only [spec_pzValue.f, if_true]
    rw [if_pos (by omega), if_pos (by omega)]
  · by_cases c1 : k = 1
    · subst c1
      simp [spec_pzValue.f, h2]
    · by_cases c2 : k = 2
      · subst c2
        simp only [show ¬ ((2 : Int) = 0 ∨ (2 : Int) = 4) by decide, if_false, if_true] at ha
        have : ¬ a = 0 := by omega
        simp [spec_pzValue.f, hn, this]
      · by_cases c3 : k = 3
        · subst c3
          simp only [show ¬ ((3 : Int) = 0 ∨ (3 : Int) = 4) by decide, show ¬ ((3 : Int) = 2) by decide, if_false, if_true] at ha
          have e1 : wrap64 (numB s - a) = numB s - a := w64 (by omega) (by omega)
          have e2 : wrap64 (-(numB s - a)) = a - numB s := by rw [w64 (by omega) (by omega)]; omega
          simp only [spec_pzValue.f, hn, c0, c1, c2, if_false, if_true, Option.bind_some, spec_l1Abs.f, spec_l1Most.f, e1, e2]
          split <;> rfl
        · simp only [spec_pzValue.f, c0, c1, c2, c3, if_false, h3, Option.bind_some]
          cases canB s a <;> rfl
theorem told_ev (k a b : Int) (s : ByteArray) (hs : s.size ≤ 7) (hst : stateB s = true) (ha : okArg s.size k a) (h4 : 0 ≤ k ∧ k ≤ 4) : ∀ n, 12 ≤ n → impl_Clue_told.f n k a b s = some (k, if k = 1 then valB 1 0 s else a, if k = 1 then 0 else valB k a s) := by
  have hb : s.data.toList.all isBit = true := by unfold stateB at hst; simp only [Bool.and_eq_true] at hst; exact hst.2
  obtain ⟨n0, n1, hn, _⟩ := numB_ev s hs hb
  have h2 := countOn_eq s (by omega) hst
  have h3 := canMove_eq s a (by omega) hb
  unfold valB
  unfold okArg at ha
  intro n hk
  have hn := hn n hk
  by_cases c0 : k = 0
  · subst c0
    simp only [true_or, if_true] at ha
    simp only [impl_Clue_told.f, if_true, impl_Clue_told_S1.f]
    rw [if_pos (by omega), if_pos (by omega)]
    have hz : s.size = s.data.toList.length := Lib.size_eq s
    obtain ⟨i, rfl⟩ : ∃ i : Nat, a = i := ⟨a.toNat, by omega⟩
    have hi : i < s.data.toList.length := by omega
    have hbi := List.all_eq_true.1 hb _ (List.getElem_mem hi)
    rw [bt_nat s i hi]
    simp only [isBit, Bool.or_eq_true, beq_iff_eq] at hbi
    rcases hbi with e | e <;> rw [e] <;> rfl
  · by_cases c1 : k = 1
    · subst c1
      simp [impl_Clue_told.f, h2]
    · by_cases c2 : k = 2
      · subst c2
        simp only [show ¬ ((2 : Int) = 0 ∨ (2 : Int) = 4) by decide, if_false, if_true] at ha
        have : ¬ a = 0 := by omega
        simp [impl_Clue_told.f, hn, this]
      · by_cases c3 : k = 3
        · subst c3
          simp only [show ¬ ((3 : Int) = 0 ∨ (3 : Int) = 4) by decide, show ¬ ((3 : Int) = 2) by decide, if_false, if_true] at ha
          have e1 : wrap64 (numB s - a) = numB s - a := w64 (by omega) (by omega)
          have e2 : wrap64 (a - numB s) = a - numB s := w64 (by omega) (by omega)
          simp only [impl_Clue_told.f, hn, c0, c1, c2, if_false, if_true, Option.bind_some, impl_apart.f, e1, e2, mx]
          congr 3
          split <;> split <;> omega
        · have c4 : k = 4 := by omega
          simp only [impl_Clue_told.f, c0, c1, c2, c3, c4, if_false, if_true, h3, Option.bind_some, impl_Clue_told_S1.f]
          cases canB s a <;> rfl

/-! ### after spec_pzHidden -/
theorem pzHidden_ev (s : ByteArray) : Ev (fun k => spec_pzHidden.f k s) (hiddenB s) := by
  obtain ⟨K, h⟩ := riGood_ev s
  refine ⟨K, fun k hk => ?_⟩
  have := h k hk
  simp only at this
  simp only [spec_pzHidden.f, this, Option.bind_some, hiddenB]
  cases stateB s
  · rfl
  · simp only [if_true, Bool.true_and]
    congr 1
    rw [Bool.eq_iff_iff]
    simp
    omega

/-! ### after impl_isHidden -/
theorem isHidden_eq (s : ByteArray) (h : s.size ≤ 9223372036854775807) : impl_isHidden.f s = some (hiddenB s) := by
  simp only [impl_isHidden.f, isState_eq s h, Option.bind_some, hiddenB]
  cases stateB s
  · rfl
  · simp only [if_true, Bool.true_and]
    congr 1
    rw [Bool.eq_iff_iff]
    simp
    omega

/-! ### after impl_MakePuzzle -/
set_option maxRecDepth 100000 in
theorem kdN_lt (z : Nat) : kdN z < 5 := Nat.mod_lt _ (by decide)
set_option maxRecDepth 100000 in
theorem two7 {n : Nat} (h : n ≤ 7) : 2 ^ n ≤ 128 := Nat.le_trans (Nat.pow_le_pow_right (by omega) h) (by decide)
set_option maxRecDepth 100000 in
theorem shl7 {n : Nat} (h1 : 1 ≤ n) (h : n ≤ 7) : shl .i64 1 (n : Int) = ((2 ^ n : Nat) : Int) := by
  have : n = 1 ∨ n = 2 ∨ n = 3 ∨ n = 4 ∨ n = 5 ∨ n = 6 ∨ n = 7 := by omega
  rcases this with rfl | rfl | rfl | rfl | rfl | rfl | rfl <;> decide +kernel
set_option maxRecDepth 100000 in
theorem argN_ok (s : ByteArray) (z : Nat) (h1 : 1 ≤ s.size) (h7 : s.size ≤ 7) : okArg s.size (kdN z : Nat) (argN s z : Nat) := by
  have h5 := kdN_lt z
  have hp := two7 h7
  have hp0 : 0 < 2 ^ s.size := Nat.pow_pos (by omega)
  have m1 : nxN (nxN z) % s.size < s.size := Nat.mod_lt _ (by omega)
  have m2 : nxN (nxN z) % 2 ^ s.size < 2 ^ s.size := Nat.mod_lt _ hp0
  unfold okArg argN
  by_cases c : kdN z = 0 ∨ kdN z = 4
  · rw [if_pos (by omega), if_pos c]; omega
  · rw [if_neg (by omega), if_neg c]
    by_cases c2 : kdN z = 2
    · rw [if_pos (by omega), if_pos c2]; omega
    · rw [if_neg (by omega), if_neg c2]
      by_cases c3 : kdN z = 3
      · rw [if_pos (by omega), if_pos c3]; omega
      · rw [if_neg (by omega)]; trivial
/-- The clue that is made. -/
def clueM (s : ByteArray) (z : Nat) : S101 := ⟨(kdN z : Nat), if ((kdN z : Nat) : Int) = 1 then valB 1 0 s else (argN s z : Nat), if ((kdN z : Nat) : Int) = 1 then 0 else valB (kdN z : Nat) (argN s z : Nat) s⟩
set_option maxRecDepth 100000 in
theorem toldP_eq (s : ByteArray) (z : Nat) (h7 : s.size ≤ 7) (hst : stateB s = true) : toldP s z = some ((clueM s z).f0, (clueM s z).f1, (clueM s z).f2) := by
  have h1 : 1 ≤ (s.size : Int) := by unfold stateB at hst; simp only [Bool.and_eq_true] at hst; exact inB_lo hst.1
  have h5 := kdN_lt z
  exact told_ev _ _ 0 s h7 hst (argN_ok s z (by omega) h7) ⟨by omega, by omega⟩ 40 (by omega)
def makeL (s : ByteArray) : Nat → Nat → List S101 → List S101
  | 0, _, acc => acc
  | n + 1, z, acc => makeL s n (nxN (nxN z)) (acc ++ [clueM s z])
set_option maxRecDepth 100000 in
theorem makeL_length (s : ByteArray) : ∀ (n z : Nat) (acc : List S101), (makeL s n z acc).length = acc.length + n
  | 0, _, _ => rfl
  | n + 1, z, acc => by rw [makeL, makeL_length s n, List.length_append, List.length_singleton]; omega
set_option maxRecDepth 100000 in
theorem mkP_eq (s : ByteArray) (h7 : s.size ≤ 7) (hst : stateB s = true) : ∀ (n z : Nat) (acc : List S101), mkP s n z acc = some (makeL s n z acc)
  | 0, _, _ => rfl
  | n + 1, z, acc => by
    rw [mkP, toldP_eq s z h7 hst, Option.bind_some]
    exact mkP_eq s h7 hst n _ _
set_option maxRecDepth 100000 in
theorem pzNext_eq (z : Nat) (hz : z < 10007) : spec_pzNext.f (z : Int) = some (nxN z : Int) := by
  unfold spec_pzNext.f
  rw [Int.mul_comm 181 (z : Int), nxN_int z hz]
set_option maxRecDepth 100000 in
theorem pzOf_ev (s : ByteArray) (kd : Nat) (a : Nat) (h7 : s.size ≤ 7) (hst : stateB s = true) (ha : okArg s.size kd a) : Ev (fun k => spec_pzOf.f k kd a s) ((kd : Int), if (kd : Int) = 1 then valB 1 0 s else (a : Int), if (kd : Int) = 1 then 0 else valB kd a s) := by
  obtain ⟨K2, h2⟩ := riOn_ev s (by omega)
  obtain ⟨K3, h3⟩ := pzValue_ev kd a s h7 (stateB_bits hst) ha
  refine ⟨K2 + K3, fun k hk => ?_⟩
  have h2 := h2 k (by omega)
  have h3 := h3 k (by omega)
  simp only at h2 h3
  by_cases c : (kd : Int) = 1
  · simp only [spec_pzOf.f, if_pos c, h2, Option.bind_some]
    rw [c]; rfl
  · simp only [spec_pzOf.f, if_neg c, h3, Option.bind_some]
/-- The ring or number that the reference gives to a clue. -/
def argS (s : ByteArray) (z : Nat) : Nat := if kdN z = 2 then nxN (nxN z) % 8 + 2 else if kdN z = 3 then nxN (nxN z) % 2 ^ s.size else nxN (nxN z) % s.size
set_option maxRecDepth 100000 in
theorem argS_ok (s : ByteArray) (z : Nat) (h1 : 1 ≤ s.size) (h7 : s.size ≤ 7) : okArg s.size (kdN z : Nat) (argS s z : Nat) := by
  have h := argN_ok s z h1 h7
  by_cases c : kdN z = 1
  · unfold okArg
    rw [if_neg (by omega), if_neg (by omega), if_neg (by omega)]
    trivial
  · have h5 := kdN_lt z
    have e : argS s z = argN s z := by
      unfold argS argN
      generalize nxN (nxN z) = Y
      generalize kdN z = d at c h5 ⊢
      have hc : d = 0 ∨ d = 2 ∨ d = 3 ∨ d = 4 := by omega
      rcases hc with rfl | rfl | rfl | rfl <;> simp
    rw [e]; exact h
set_option maxRecDepth 100000 in
theorem clueS_eq (s : ByteArray) (z : Nat) : (⟨((kdN z : Nat) : Int), (if ((kdN z : Nat) : Int) = 1 then valB 1 0 s else ((argS s z : Nat) : Int)), (if ((kdN z : Nat) : Int) = 1 then 0 else valB (kdN z : Nat) ((argS s z : Nat) : Int) s)⟩ : S101) = clueM s z := by
  unfold clueM
  have h5 := kdN_lt z
  by_cases c : kdN z = 1
  · rw [if_pos (by omega), if_pos (by omega), if_pos (by omega), if_pos (by omega)]
  · have e : argS s z = argN s z := by
      unfold argS argN
      generalize nxN (nxN z) = Y
      generalize kdN z = d at c h5 ⊢
      have hc : d = 0 ∨ d = 2 ∨ d = 3 ∨ d = 4 := by omega
      rcases hc with rfl | rfl | rfl | rfl <;> simp
    rw [e]
set_option maxRecDepth 100000 in
theorem specStep (s : ByteArray) (k n z : Nat) (r : Int) (acc : List S101) (h1 : 1 ≤ s.size) (h7 : s.size ≤ 7) (hz : z < 10007) (hn : n ≤ 6) (ha : acc.length < 7) (t : Int × Int × Int) (ht : spec_pzOf.f k ((kdN z : Nat) : Int) ((argS s z : Nat) : Int) s = some t) :
    spec_MakePuzzle.l0 (k + 1) s ((n + 1 : Nat) : Int) (z : Int) r acc = spec_MakePuzzle.l0 k s (n : Int) (nxN (nxN z) : Int) r (acc ++ [⟨t.1, t.2.1, t.2.2⟩]) := by
  have hmod : Int.tmod (nxN z : Int) 5 = (kdN z : Int) := tmodN (nxN z) 5
  have e1 := pzNext_eq z hz
  have e2 := pzNext_eq (nxN z) (nxN_lt z)
  have h5 := kdN_lt z
  unfold argS at ht
  generalize nxN (nxN z) = Y at e2 ht ⊢
  generalize nxN z = X at e1 e2 hmod ⊢
  generalize kdN z = d at h5 ht hmod
  have hmod8 : Int.tmod (Y : Int) 8 = ((Y % 8 : Nat) : Int) := tmodN _ 8
  have hmods : Int.tmod (Y : Int) (s.size : Int) = ((Y % s.size : Nat) : Int) := tmodN _ _
  have hsh := shl7 (n := s.size) (by omega) h7
  have hp0 : 0 < 2 ^ s.size := Nat.pow_pos (by omega)
  have hmodp : Int.tmod (Y : Int) (shl .i64 1 (s.size : Int)) = ((Y % 2 ^ s.size : Nat) : Int) := by rw [hsh]; exact tmodN _ _
  have ew : wrap64 (((n + 1 : Nat) : Int) - 1) = (n : Int) := by rw [w64 (by omega) (by omega)]; omega
  rw [spec_MakePuzzle.l0, if_pos (by omega), e1, Option.bind_some, e2, Option.bind_some, if_neg (by omega), hmod]
  by_cases c2 : d = 2
  · subst c2
    rw [if_pos rfl] at ht
    have e8 : wrap64 (((Y % 8 : Nat) : Int) + 2) = ((Y % 8 + 2 : Nat) : Int) := by rw [w64 (by omega) (by omega)]; omega
    rw [if_pos (by omega), hmod8, e8, ht, Option.bind_some, if_pos (by omega), ew]
  · by_cases c3 : d = 3
    · subst c3
      rw [if_neg (by omega), if_pos rfl] at ht
      rw [if_neg (by omega), if_pos (by omega), if_neg (by rw [hsh]; omega), hmodp, ht, Option.bind_some, if_pos (by omega), ew]
    · rw [if_neg c2, if_neg c3] at ht
      rw [if_neg (by omega), if_neg (by omega), hmods, ht, Option.bind_some, if_pos (by omega), ew]
set_option maxRecDepth 100000 in
theorem specMake_l0 (s : ByteArray) (h7 : s.size ≤ 7) (hst : stateB s = true) : ∀ (n z : Nat) (r : Int) (acc : List S101), z < 10007 → acc.length + n ≤ 6 → Ev (fun k => spec_MakePuzzle.l0 k s (n : Int) (z : Int) r acc) (r, makeL s n z acc, true)
  | 0, z, r, acc, _, _ => Ev.last fun k => by rw [spec_MakePuzzle.l0, if_neg (by omega)]; rfl
  | n + 1, z, r, acc, hz, hn => by
    have h1 : 1 ≤ (s.size : Int) := by unfold stateB at hst; simp only [Bool.and_eq_true] at hst; exact inB_lo hst.1
    have ih := specMake_l0 s h7 hst n (nxN (nxN z)) r (acc ++ [clueM s z]) (nxN_lt _) (by simp; omega)
    obtain ⟨K, hK⟩ := pzOf_ev s (kdN z) (argS s z) h7 hst (argS_ok s z (by omega) h7)
    refine Ev.next ⟨K, fun k hk => ?_⟩ ih
    have hK := hK k hk
    simp only at hK
    rw [specStep s k n z r acc (by omega) h7 hz (by omega) (by omega) _ hK]
    simp only [clueS_eq]
def makeR (s : ByteArray) (a b : Int) : Int × List S101 × Bool := if (hiddenB s && inB a 0 6 && inB b 0 9999) = true then ((s.size : Int), makeL s a.toNat b.toNat [], true) else (0, [], false)
set_option maxRecDepth 100000 in
theorem makeR_length (s : ByteArray) (a b : Int) : (makeR s a b).2.1.length ≤ 6 := by
  unfold makeR
  split
  · rename_i h
    simp only [Bool.and_eq_true] at h
    have := inB_hi h.1.2
    simp only [makeL_length, List.length_nil]
    omega
  · simp
set_option maxRecDepth 100000 in
theorem hidden_facts {s : ByteArray} (h : hiddenB s = true) : stateB s = true ∧ 1 ≤ s.size ∧ s.size ≤ 7 := by
  unfold hiddenB at h
  simp only [Bool.and_eq_true, decide_eq_true_eq] at h
  have h1 := h.1
  unfold stateB at h1
  simp only [Bool.and_eq_true] at h1
  have := inB_lo h1.1
  exact ⟨h.1, by omega, h.2⟩
set_option maxRecDepth 100000 in
theorem implMake_eq (s : ByteArray) (a b : Int) (hs : s.size ≤ 9223372036854775807) : impl_MakePuzzle.f s a b = some (makeR s a b) := by
  unfold impl_MakePuzzle.f makeR
  rw [isHidden_eq s hs, Option.bind_some]
  cases h : hiddenB s
  · simp
  · obtain ⟨h1, h2, h3⟩ := hidden_facts h
    cases c1 : inB a 0 6
    · simp
    · cases c2 : inB b 0 9999
      · simp
      · rw [if_pos rfl, if_pos rfl, if_pos rfl, if_pos ⟨by omega, h3⟩, mkP_eq s h3 h1]
        rfl
set_option maxRecDepth 100000 in
theorem specMake_ev (s : ByteArray) (a b : Int) : Ev (fun k => spec_MakePuzzle.f k s a b) (makeR s a b) := by
  obtain ⟨K, hK⟩ := pzHidden_ev s
  have hf : ∀ k, 1 ≤ k → spec_MakePuzzle.j0 k s a b true = some (0, [], false) := by
    intro k hk
    obtain ⟨k, rfl⟩ : ∃ m, k = m + 1 := ⟨k - 1, by omega⟩
    rw [spec_MakePuzzle.j0, if_pos rfl]
  have hl : ∀ x y z : Int, spec_l1In.f x y z = some (inB x y z) := inB_ite
  cases h : hiddenB s
  · refine ⟨K + 1, fun k hk => ?_⟩
    have := hK k (by omega)
    simp only at this
    simp [spec_MakePuzzle.f, this, h, hf k (by omega), makeR]
  · obtain ⟨h1, h2, h3⟩ := hidden_facts h
    cases c1 : inB a 0 6
    · refine ⟨K + 1, fun k hk => ?_⟩
      have := hK k (by omega)
      simp only at this
      simp [spec_MakePuzzle.f, this, h, hf k (by omega), makeR, hl, c1]
    · cases c2 : inB b 0 9999
      · refine ⟨K + 1, fun k hk => ?_⟩
        have := hK k (by omega)
        simp only at this
        simp [spec_MakePuzzle.f, this, h, hf k (by omega), makeR, hl, c1, c2]
      · have a0 := inB_lo c1
        have a1 := inB_hi c1
        have b0 := inB_lo c2
        have b1 := inB_hi c2
        obtain ⟨n, rfl⟩ : ∃ n : Nat, a = n := ⟨a.toNat, by omega⟩
        obtain ⟨z, rfl⟩ : ∃ n : Nat, b = n := ⟨b.toNat, by omega⟩
        obtain ⟨K2, h4⟩ := specMake_l0 s h3 h1 n z (s.size : Int) [] (by omega) (by simp; omega)
        refine ⟨K + K2 + 1, fun k hk => ?_⟩
        have := hK k (by omega)
        obtain ⟨k, rfl⟩ : ∃ m, k = m + 1 := ⟨k - 1, by omega⟩
        have h4 := h4 k (by omega)
        simp only at this h4
        simp only [spec_MakePuzzle.f, this, h, hl, c1, c2, Option.bind_some, if_true, Bool.not_true, makeR, Bool.and_self]
        rw [spec_MakePuzzle.j0, if_neg (by decide)]
        simpa using h4

end Go.Proofs.YtepaleeepbjkbaaDoor.PMakePuzzle
