/- What the printed functions answer, function by function: plain statements, without memory. (wip/after) -/
import Derived.Test.YtcogjabdddikjaaDoorQPHidAllx
import Derived.Test.YtcogjabdddikjaaDoorQEv
import Derived.Test.YtcogjabdddikjaaDoorQState
import Derived.Test.YtcogjabdddikjaaDoorQGray
import Derived.Test.YtcogjabdddikjaaDoorQMap
namespace Go.Proofs.YtcogjabdddikjaaDoor.PHidAll
open Go.RowKit Go.Proofs.YtcogjabdddikjaaDoorW.PrintWords Go.Proofs.YtcogjabdddikjaaDoorW.PrintLast Go.Proofs.YtcogjabdddikjaaDoorW.PrintMore
set_option linter.unusedVariables false
set_option linter.unusedSimpArgs false
/-! ### after spec_pzGood -/
theorem pzGood_ev (r : Int) (l : List S59) (hl : l.length ≤ 9223372036854775807) : Ev (fun k => spec_pzGood.f k r l) (isPuzzleB r l) := by
  have hj : ∀ b : Bool, 0 ≤ r → Ev (fun k => spec_pzGood.j0 k b r l) (if b = true then false else !(l.any fun x => !clueB r x.f0 x.f1 x.f2)) := by
    intro b hr
    cases b
    · refine Ev.next (f := fun k => spec_pzGood.l0 k l (l.length : Int) 0 r l) ⟨0, fun k _ => by rw [spec_pzGood.j0]; simp⟩ ?_
      have := any_ev (fun k i => spec_pzGood.l0 k l (l.length : Int) i r l) l (fun x => !clueB r x.f0 x.f1 x.f2) false true (fun i h => ⟨1, fun k hk => by
        obtain ⟨k, rfl⟩ : ∃ m, k = m + 1 := ⟨k - 1, by omega⟩
        have e : rd_T59 l (i : Int) = l[i] := by simp [rd_T59, h]
        have ew : wrap64 ((i : Int) + 1) = ((i + 1 : Nat) : Int) := by rw [w64 (by omega) (by omega)]; omega
        rw [spec_pzGood.l0, if_pos (by omega), if_pos (by omega), if_pos (by omega), pzClue_eq _ _ _ _ _ hr, e, ew]
        simp only [Option.bind_some]
        cases clueB r l[i].f0 l[i].f1 l[i].f2 <;> simp⟩) (fun k => by rw [spec_pzGood.l0, if_neg (by omega)])
      cases h : l.any fun x => !clueB r x.f0 x.f1 x.f2 <;> simpa [h] using this
    · refine Ev.last fun k => ?_
      rw [spec_pzGood.j0]; simp
  have e1 : ∀ k, spec_pzGood.f k r l = if inB r 1 7 = true then spec_pzGood.j0 k (decide ((l.length : Int) > 6)) r l else spec_pzGood.j0 k true r l := by
    intro k
    simp only [spec_pzGood.f, spec_pzRings.f, spec_l1In.f, inB_ite, Option.bind_some]
  refine Ev.congr e1 ?_
  unfold isPuzzleB
  cases h : inB r 1 7
  · simp only [Bool.false_and, Bool.false_eq_true, if_false]
    refine Ev.last fun k => ?_
    rw [spec_pzGood.j0]; simp
  · simp only [if_true]
    have hr := inB_lo h
    have := hj (decide ((l.length : Int) > 6)) (by omega)
    have hc : (l.any fun x => !isClueB r x.f0 x.f1 x.f2) = l.any fun x => !clueB r x.f0 x.f1 x.f2 := by simp [isClueB, h]
    rw [hc]
    by_cases h6 : l.length ≤ 6
    · have hd : decide ((l.length : Int) > 6) = false := decide_eq_false (by omega)
      rw [hd] at this ⊢
      simpa [h6] using this
    · have hd : decide ((l.length : Int) > 6) = true := decide_eq_true (by omega)
      rw [hd] at this ⊢
      simpa [h6] using this

/-! ### after spec_pzWithout -/
theorem pzWithout_eq (l : List S59) (a : Int) (h0 : 0 ≤ a) (h1 : a < l.length) (hl : l.length ≤ 1048576) : spec_pzWithout.f l a = some (l.eraseIdx a.toNat) := by
  unfold spec_pzWithout.f
  have e : wrap64 (a + 1) = a + 1 := w64 (by omega) (by omega)
  have e2 : (a + 1).toNat = a.toNat + 1 := by omega
  simp only [Option.bind_some, e]
  rw [if_pos h0, if_pos (by omega), if_pos (by simp; omega), if_pos (by omega), if_pos (by omega), if_pos (by simp; omega), List.eraseIdx_eq_take_drop_succ, e2]
  rfl

/-! ### after impl_DropClue -/
theorem implDropClue_eq (r : Int) (l : List S59) (a : Int) (hl : l.length ≤ 1048576) : impl_DropClue.f r l a = some (if (isPuzzleB r l && inB a 0 (wrap64 (l.length - 1))) = true then (r, l.eraseIdx a.toNat, true) else (0, [], false)) := by
  simp only [impl_DropClue.f, impl_IsPuzzle.f, Option.bind_some, impl_in.f, inB_ite]
  cases h : isPuzzleB r l
  · simp
  · cases h2 : inB a 0 (wrap64 (l.length - 1))
    · simp
    · have h3 := inB_lo h2
      have h4 := inB_hi h2
      rw [w64 (by omega) (by omega)] at h4
      have e : wrap64 (a + 1) = a + 1 := w64 (by omega) (by omega)
      have hc : impl_Clue_122.f l = some l := if_pos (by omega)
      have hd : impl_Clue_145.f l a (a + 1) = some (l.eraseIdx a.toNat) := if_pos ⟨h3, rfl, by omega⟩
      simp [impl_Puzzle_without.f, hc, hd, e]

/-! ### after spec_DropClue -/
theorem specDropClue_ev (r : Int) (l : List S59) (a : Int) (hl : l.length ≤ 1048576) : Ev (fun k => spec_DropClue.f k r l a) (if (isPuzzleB r l && inB a 0 (wrap64 (l.length - 1))) = true then (r, l.eraseIdx a.toNat, true) else (0, [], false)) := by
  obtain ⟨K, hK⟩ := pzGood_ev r l (by omega)
  refine ⟨K, fun k hk => ?_⟩
  simp only [spec_DropClue.f, hK k hk, Option.bind_some, spec_l1In.f, inB_ite]
  cases h : isPuzzleB r l
  · simp
  · cases h2 : inB a 0 (wrap64 (l.length - 1))
    · simp
    · have h3 := inB_lo h2
      have h4 := inB_hi h2
      rw [w64 (by omega) (by omega)] at h4
      simp [pzWithout_eq l a h3 (by omega) hl]

/-! ### after impl_AddClue -/
theorem implAddClue_ev (r : Int) (l : List S59) (a b c : Int) (hl : l.length ≤ 1048576) : Ev (fun k => impl_AddClue.f k r l a b c) (if (isPuzzleB r l && isClueB r a b c && decide (l.length < 6)) = true then (r, l ++ [⟨a, b, c⟩], true) else (0, [], false)) := by
  refine ⟨1, fun k hk => ?_⟩
  obtain ⟨k, rfl⟩ : ∃ m, k = m + 1 := ⟨k - 1, by omega⟩
  simp only [impl_AddClue.f, impl_IsPuzzle.f, Option.bind_some, implClue_eq]
  cases h : isPuzzleB r l
  · simp
  · cases h2 : isClueB r a b c
    · simp
    · have hc : impl_Clue_122.f l = some l := if_pos (by omega)
      by_cases h6 : l.length < 6
      · simp only [if_true]
        rw [if_neg (by omega), hc]
        simp only [Option.bind_some, List.length_singleton]
        rw [if_pos (by omega)]
        simp [h6]
      · simp only [if_true]
        rw [if_pos (by omega)]
        simp [h6]

/-! ### after spec_AddClue -/
theorem specAddClue_ev (r : Int) (l : List S59) (a b c : Int) (hl : l.length ≤ 1048576) : Ev (fun k => spec_AddClue.f k r l a b c) (if (isPuzzleB r l && isClueB r a b c && decide (l.length < 6)) = true then (r, l ++ [⟨a, b, c⟩], true) else (0, [], false)) := by
  obtain ⟨K, hK⟩ := pzGood_ev r l (by omega)
  refine ⟨K + 1, fun k hk => ?_⟩
  simp only [spec_AddClue.f, hK k (by omega), Option.bind_some]
  obtain ⟨k, rfl⟩ : ∃ m, k = m + 1 := ⟨k - 1, by omega⟩
  cases h : isPuzzleB r l
  · simp
  · have hr : inB r 1 7 = true := by
      simp only [isPuzzleB, Bool.and_eq_true] at h; exact h.1.1
    have hl6 : l.length ≤ 6 := by
      simp only [isPuzzleB, Bool.and_eq_true, decide_eq_true_eq] at h; exact h.1.2
    have h0 := inB_lo hr
    simp only [if_true, pzClue_eq _ _ _ _ _ (by omega : 0 ≤ r), Option.bind_some, isClueB, hr, Bool.true_and]
    cases h2 : clueB r a b c
    · simp
    · by_cases h6 : l.length < 6
      · simp only [if_true]
        rw [if_neg (by omega)]
        rw [if_pos (by simp; omega), if_pos (by simp; omega)]
        simp [h6]
      · simp only [if_true]
        rw [if_pos (by omega)]
        simp [h6]

/-! ### after spec_riGood -/
theorem riGood_ev (s : ByteArray) : Ev (fun k => spec_riGood.f k s) (stateB s) := by
  have e1 : ∀ k, spec_riGood.f k s = if inB (s.size : Int) 1 20 = true then spec_riGood.l0 k s 0 else some false := by
    intro k
    simp only [spec_riGood.f, spec_l1In.f, inB_ite, Option.bind_some]
  refine Ev.congr e1 ?_
  unfold stateB
  cases h : inB (s.size : Int) 1 20
  · exact Ev.now _
  · have hs : s.size ≤ 20 := by have := inB_hi h; omega
    have hz : s.size = s.data.toList.length := Lib.size_eq s
    have := any_ev (fun k i => spec_riGood.l0 k s i) s.data.toList (fun b => !isBit b) false true (fun i hi => ⟨1, fun k hk => by
      obtain ⟨k, rfl⟩ : ∃ m, k = m + 1 := ⟨k - 1, by omega⟩
      have ew : wrap64 ((i : Int) + 1) = ((i + 1 : Nat) : Int) := by rw [w64 (by omega) (by omega)]; omega
      have eb := bt_nat s i hi
      rw [spec_riGood.l0, if_pos (by omega), if_pos (by omega), eb, ew]
      have q8 := byte_toInt s.data.toList[i] 48 (by omega)
      have q9 := byte_toInt s.data.toList[i] 49 (by omega)
      simp only [Int.cast_ofNat_Int] at q8 q9
      simp only [q8, q9, isBit]
      generalize s.data.toList[i] = b
      by_cases c8 : b = 48
      · simp [c8]
      · by_cases c9 : b = 49
        · simp [c9]
        · simp [c8, c9]⟩) (fun k => by rw [spec_riGood.l0, if_neg (by omega)])
    have ha : (!(s.data.toList.any fun b => !isBit b)) = s.data.toList.all isBit := by simp [List.all_eq_not_any_not]
    simp only [Bool.true_and, if_true]
    rw [← ha]
    cases hq : s.data.toList.any fun b => !isBit b <;> simpa [hq] using this

/-! ### after impl_IsState -/
theorem isState_eq (s : ByteArray) (h : s.size ≤ 9223372036854775807) : impl_IsState.f s = some (stateB s) := by
  have ht : strings_Trim.f s (⟨#[48, 49]⟩ : ByteArray) = some ⟨(Lib.trimS s.data.toList [48, 49]).toArray⟩ := by
    unfold strings_Trim.f
    rw [if_pos ⟨h, by decide, by decide⟩]
  simp only [impl_IsState.f, impl_in.f, inB_ite, Option.bind_some, ht, trimS_beq, isBit_contains, stateB]
  cases inB (s.size : Int) 1 20 <;> simp

/-! ### after spec_riOn -/
theorem riOn_l0 (s : ByteArray) (hs : s.size ≤ 1048576) : ∀ (n i : Nat) (acc : Nat), i + n = s.data.toList.length → acc ≤ i →
    Ev (fun k => spec_riOn.l0 k s (acc : Int) (i : Int)) ((acc + (s.data.toList.drop i).count 49 : Nat) : Int) := by
  have hz : s.size = s.data.toList.length := Lib.size_eq s
  intro n
  induction n with
  | zero =>
    intro i acc hi ha
    refine Ev.last fun k => ?_
    rw [spec_riOn.l0, if_neg (by omega), List.drop_of_length_le (by omega)]
    simp
  | succ n ih =>
    intro i acc hi ha
    have hi' : i < s.data.toList.length := by omega
    have eb := bt_nat s i hi'
    have q9 := byte_toInt s.data.toList[i] 49 (by omega)
    simp only [Int.cast_ofNat_Int] at q9
    have ew : wrap64 ((i : Int) + 1) = ((i + 1 : Nat) : Int) := by rw [w64 (by omega) (by omega)]; omega
    have ea : wrap64 ((acc : Int) + 1) = ((acc + 1 : Nat) : Int) := by rw [w64 (by omega) (by omega)]; omega
    have hd : s.data.toList.drop i = s.data.toList[i] :: s.data.toList.drop (i + 1) := (List.getElem_cons_drop hi').symm
    by_cases c : s.data.toList[i] = 49
    · have := ih (i + 1) (acc + 1) (by omega) (by omega)
      refine Ev.next (f := fun k => spec_riOn.l0 k s ((acc + 1 : Nat) : Int) ((i + 1 : Nat) : Int)) ⟨0, fun k _ => ?_⟩ ?_
      · rw [spec_riOn.l0, if_pos (by omega), if_pos (by omega), eb, if_pos (q9.mpr c), ew, ea]
      · rw [hd, c, List.count_cons_self]
        have e : acc + 1 + List.count 49 (List.drop (i + 1) s.data.toList) = acc + (List.count 49 (List.drop (i + 1) s.data.toList) + 1) := by omega
        rw [← e]; exact this
    · have := ih (i + 1) acc (by omega) (by omega)
      refine Ev.next (f := fun k => spec_riOn.l0 k s (acc : Int) ((i + 1 : Nat) : Int)) ⟨0, fun k _ => ?_⟩ ?_
      · rw [spec_riOn.l0, if_pos (by omega), if_pos (by omega), eb, if_neg (fun x => c (q9.mp x)), ew]
      · rw [hd, List.count_cons_of_ne (by exact c)]; exact this
theorem riOn_ev (s : ByteArray) (hs : s.size ≤ 1048576) : Ev (fun k => spec_riOn.f k s) (onN s : Int) := by
  have := riOn_l0 s hs s.data.toList.length 0 0 (by omega) (by omega)
  have h2 : Ev (fun k => spec_riOn.l0 k s 0 0) (onN s : Int) := by simpa [onN] using this
  exact h2

/-! ### after impl_CountOn -/
theorem countOn_eq (s : ByteArray) (h : s.size ≤ 1048576) (hst : stateB s = true) : impl_CountOn.f s = some ((onN s : Int), true) := by
  have hc : strings_Count.f s (⟨#[49]⟩ : ByteArray) = some (onN s : Int) := by
    unfold strings_Count.f
    rw [if_pos (by decide)]
    rfl
  simp only [impl_CountOn.f, isState_eq s (by omega), hst, Option.bind_some, hc, if_true]

/-! ### after impl_canMove -/
theorem canMove_eq (s : ByteArray) (a : Int) (h : s.size ≤ 1048576) (hst : s.data.toList.all isBit = true) : impl_canMove.f s a = some (canB s a) := by
  have hz : s.size = s.data.toList.length := Lib.size_eq s
  unfold canB
  by_cases h0 : a = 0
  · simp [impl_canMove.f, h0]
  · have ew : wrap64 ((s.size : Int) - 1) = (s.size : Int) - 1 := w64 (by omega) (by omega)
    simp only [impl_canMove.f, impl_in.f, inB_ite, Option.bind_some, ew, if_neg h0]
    cases hb : inB a 1 ((s.size : Int) - 1)
    · simp [h0]
    · have h1 := inB_lo hb
      have h2 := inB_hi hb
      have ea : wrap64 (a - 1) = a - 1 := w64 (by omega) (by omega)
      rw [ea, if_pos rfl, if_pos (by omega), if_pos (by omega), if_pos (show a - 1 ≤ (s.size : Int) by omega)]
      by_cases h49 : bt s (a - 1) = 49
      · have hx : (s.extract 0 (a - 1).toNat).size ≤ 9223372036854775807 := by
          rw [Lib.size_eq, extract_toNat, List.length_take]; omega
        have ht : strings_Trim.f (s.extract 0 (a - 1).toNat) (⟨#[48]⟩ : ByteArray) = some ⟨(Lib.trimS (s.data.toList.take (a - 1).toNat) [48]).toArray⟩ := by
          unfold strings_Trim.f
          rw [if_pos ⟨hx, by decide, by decide⟩, extract_toNat]
        rw [if_pos h49, ht]
        simp only [Option.bind_some, trimS_beq]
        congr 1
        have hall : ∀ b ∈ s.data.toList.take (a - 1).toNat, isBit b = true := fun b hb => List.all_eq_true.1 hst b (List.mem_of_mem_take hb)
        generalize s.data.toList.take (a - 1).toNat = l at hall
        simp only [h0, decide_false, Bool.false_or, h49, decide_true, Bool.true_and]
        induction l with
        | nil => rfl
        | cons b l ih =>
          have hb1 := hall b (by simp)
          have ih' := ih (fun x hx => hall x (by simp [hx]))
          simp only [isBit, Bool.or_eq_true, beq_iff_eq] at hb1
          rcases hb1 with rfl | rfl
          · simpa using ih'
          · simp
      · simp [h49, h0]

/-! ### after spec_riCan -/
theorem riCan_ev (s : ByteArray) (a : Int) (h : s.size ≤ 1048576) : Ev (fun k => spec_riCan.f k s a) (decide (a = 0) || inB a 1 ((s.size : Int) - 1) && decide (bt s (a - 1) = 49) && decide ((s.data.toList.take (a - 1).toNat).count 49 = 0)) := by
  have hz : s.size = s.data.toList.length := Lib.size_eq s
  by_cases h0 : a = 0
  · exact ⟨0, fun k _ => by simp [spec_riCan.f, h0]⟩
  · have ew : wrap64 ((s.size : Int) - 1) = (s.size : Int) - 1 := w64 (by omega) (by omega)
    cases hb : inB a 1 ((s.size : Int) - 1)
    · exact ⟨0, fun k _ => by simp [spec_riCan.f, h0, spec_l1In.f, inB_ite, ew, hb]⟩
    · have h1 := inB_lo hb
      have h2 := inB_hi hb
      have ea : wrap64 (a - 1) = a - 1 := w64 (by omega) (by omega)
      by_cases h49 : bt s (a - 1) = 49
      · have hx : (s.extract 0 (a - 1).toNat).size ≤ 1048576 := by
          rw [Lib.size_eq, extract_toNat, List.length_take]; omega
        obtain ⟨K, hK⟩ := riOn_ev (s.extract 0 (a - 1).toNat) hx
        refine ⟨K, fun k hk => ?_⟩
        simp only [spec_riCan.f, if_neg h0, spec_l1In.f, inB_ite, ew, hb, Option.bind_some, if_true, ea]
        rw [if_pos (by omega), if_pos (by omega), if_pos h49, if_pos (by omega), show spec_riOn.f k (s.extract 0 (a - 1).toNat) = _ from hK k hk]
        simp only [Option.bind_some, onN, extract_toNat, h0, h49, decide_true, decide_false, Bool.false_or, Bool.true_and]
        congr 1
        rw [Bool.eq_iff_iff]
        simp
      · refine ⟨0, fun k _ => ?_⟩
        simp only [spec_riCan.f, if_neg h0, spec_l1In.f, inB_ite, ew, hb, Option.bind_some, if_true, ea]
        rw [if_pos (by omega), if_pos (by omega), if_neg h49]
        simp [h0, h49]

/-! ### after impl_IsClue -/
theorem pzClueA_eq (n : Nat) (r k a b : Int) (h : 0 ≤ r) : spec_pzClue.f (n + 1) r k a b = some (clueB r k a b) := by
  simp only [spec_pzClue.f, spec_pzClue.j0, spec_l1In.f, inB_ite, Option.bind_some, and_some, clueB]
  by_cases h0 : k = 0
  · simp [h0]
  · by_cases h4 : k = 4
    · simp [h4]
    · by_cases h1 : k = 1
      · simp [h1]
      · by_cases h2 : k = 2
        · simp [h2]
        · by_cases h3 : k = 3
          · simp [h3, h]
          · simp [h0, h1, h2, h3, h4]
theorem implClueA_j0 (k : Nat) (a b : Int) (t : Bool) (c d e : Int) : impl_IsClue.j0 k a b t c d e = spec_pzClue.j0 k a b t c d e := by
  cases k with
  | zero => rfl
  | succ k => rfl
theorem implClueA_eq (n : Nat) (r k a b : Int) : impl_IsClue.f (n + 1) r k a b = some (isClueB r k a b) := by
  simp only [impl_IsClue.f, impl_in.f, inB_ite, Option.bind_some, isClueB, implClueA_j0]
  cases h : inB r 1 7
  · rfl
  · have := pzClueA_eq n r k a b (by have := inB_lo h; omega)
    simp only [spec_pzClue.f] at this
    simp [this]

/-! ### after impl_Clue_told -/
theorem riCan_evB (s : ByteArray) (a : Int) (h : s.size ≤ 1048576) : Ev (fun k => spec_riCan.f k s a) (canB s a) := riCan_ev s a h
def numChk (l : List UInt8) : Bool :=
  match impl_number.f 12 ⟨l.toArray⟩, spec_riNumber.f 12 ⟨l.toArray⟩ with
  | some a, some b => a == b && decide (0 ≤ a) && decide (a < 128)
  | _, _ => false
theorem num_all : ((List.range 8).all fun n => (allS n).all numChk) = true := by decide +kernel
def numB (s : ByteArray) : Int := (impl_number.f 12 s).getD 0
theorem numB_ev (s : ByteArray) (hs : s.size ≤ 7) (hb : s.data.toList.all isBit = true) : 0 ≤ numB s ∧ numB s < 128 ∧ (∀ k, 12 ≤ k → impl_number.f k s = some (numB s)) ∧ Ev (fun k => spec_riNumber.f k s) (numB s) := by
  have hz : s.size = s.data.toList.length := Lib.size_eq s
  have h1 := List.all_eq_true.1 num_all s.data.toList.length (List.mem_range.2 (by omega))
  have h2 := List.all_eq_true.1 h1 _ (mem_allS _ hb)
  have e : (⟨s.data.toList.toArray⟩ : ByteArray) = s := by simp
  unfold numChk at h2
  rw [e] at h2
  unfold numB
  split at h2
  · rename_i a b ha hb'
    simp only [Bool.and_eq_true, beq_iff_eq, decide_eq_true_eq] at h2
    obtain ⟨⟨rfl, h3⟩, h4⟩ := h2
    rw [ha]
    exact ⟨h3, h4, fun k hk => at_rounds (impl_number.mono s) hk ha, Ev.of (spec_riNumber.mono s) hb'⟩
  · cases h2
/-- What a clue of a kind tells of a state. -/
def valB (k a : Int) (s : ByteArray) : Int := if k = 0 then (bt s a - 48) % 256 else if k = 1 then (onN s : Int) else if k = 2 then Int.tmod (numB s) a else if k = 3 then (if numB s - a > a - numB s then numB s - a else a - numB s) else (if canB s a = true then 1 else 0)
def fitsB (k a b : Int) (s : ByteArray) : Bool := if k = 1 then valB 1 0 s == a else valB k a s == b
theorem pzValue_ev (k a : Int) (s : ByteArray) (hs : s.size ≤ 7) (hb : s.data.toList.all isBit = true) (ha : okArg s.size k a) : Ev (fun n => spec_pzValue.f n k a s) (valB k a s) := by
  obtain ⟨n0, n1, _, K, hn⟩ := numB_ev s hs hb
  obtain ⟨K2, h2⟩ := riOn_ev s (by omega)
  obtain ⟨K3, h3⟩ := riCan_evB s a (by omega)
  unfold valB
  unfold okArg at ha
  refine ⟨K + K2 + K3, fun n hk => ?_⟩
  have hn := hn n (by omega)
  have h2 := h2 n (by omega)
  have h3 := h3 n (by omega)
  simp only at hn h2 h3
  by_cases c0 : k = 0
  · subst c0
    simp only [true_or, if_true] at ha
    simp only [spec_pzValue.f, if_true]
    rw [if_pos (by omega), if_pos (by omega)]
  · by_cases c1 : k = 1
    · subst c1
      simp [spec_pzValue.f, h2]
    · by_cases c2 : k = 2
      · subst c2
        simp only [show ¬ ((2 : Int) = 0 ∨ (2 : Int) = 4) by decide, if_false, if_true] at ha
        have : ¬ a = 0 := by omega
        simp [spec_pzValue.f, hn, this]
      · by_cases c3 : k = 3
        · subst c3
          simp only [show ¬ ((3 : Int) = 0 ∨ (3 : Int) = 4) by decide, show ¬ ((3 : Int) = 2) by decide, if_false, if_true] at ha
          have e1 : wrap64 (numB s - a) = numB s - a := w64 (by omega) (by omega)
          have e2 : wrap64 (-(numB s - a)) = a - numB s := by rw [w64 (by omega) (by omega)]; omega
          simp only [spec_pzValue.f, hn, c0, c1, c2, if_false, if_true, Option.bind_some, spec_l1Abs.f, spec_l1Most.f, e1, e2]
          split <;> rfl
        · simp only [spec_pzValue.f, c0, c1, c2, c3, if_false, h3, Option.bind_some]
          cases canB s a <;> rfl
theorem told_ev (k a b : Int) (s : ByteArray) (hs : s.size ≤ 7) (hst : stateB s = true) (ha : okArg s.size k a) (h4 : 0 ≤ k ∧ k ≤ 4) : ∀ n, 12 ≤ n → impl_Clue_told.f n k a b s = some (k, if k = 1 then valB 1 0 s else a, if k = 1 then 0 else valB k a s) := by
  have hb : s.data.toList.all isBit = true := by unfold stateB at hst; simp only [Bool.and_eq_true] at hst; exact hst.2
  obtain ⟨n0, n1, hn, _⟩ := numB_ev s hs hb
  have h2 := countOn_eq s (by omega) hst
  have h3 := canMove_eq s a (by omega) hb
  unfold valB
  unfold okArg at ha
  intro n hk
  have hn := hn n hk
  by_cases c0 : k = 0
  · subst c0
    simp only [true_or, if_true] at ha
    simp only [impl_Clue_told.f, if_true, impl_Clue_told_S1.f]
    rw [if_pos (by omega), if_pos (by omega)]
    have hz : s.size = s.data.toList.length := Lib.size_eq s
    obtain ⟨i, rfl⟩ : ∃ i : Nat, a = i := ⟨a.toNat, by omega⟩
    have hi : i < s.data.toList.length := by omega
    have hbi := List.all_eq_true.1 hb _ (List.getElem_mem hi)
    rw [bt_nat s i hi]
    simp only [isBit, Bool.or_eq_true, beq_iff_eq] at hbi
    rcases hbi with e | e <;> rw [e] <;> rfl
  · by_cases c1 : k = 1
    · subst c1
      simp [impl_Clue_told.f, h2]
    · by_cases c2 : k = 2
      · subst c2
        simp only [show ¬ ((2 : Int) = 0 ∨ (2 : Int) = 4) by decide, if_false, if_true] at ha
        have : ¬ a = 0 := by omega
        simp [impl_Clue_told.f, hn, this]
      · by_cases c3 : k = 3
        · subst c3
          simp only [show ¬ ((3 : Int) = 0 ∨ (3 : Int) = 4) by decide, show ¬ ((3 : Int) = 2) by decide, if_false, if_true] at ha
          have e1 : wrap64 (numB s - a) = numB s - a := w64 (by omega) (by omega)
          have e2 : wrap64 (a - numB s) = a - numB s := w64 (by omega) (by omega)
          simp only [impl_Clue_told.f, hn, c0, c1, c2, if_false, if_true, Option.bind_some, impl_apart.f, e1, e2, mx]
          congr 3
          split <;> split <;> omega
        · have c4 : k = 4 := by omega
          simp only [impl_Clue_told.f, c0, c1, c2, c3, c4, if_false, if_true, h3, Option.bind_some, impl_Clue_told_S1.f]
          cases canB s a <;> rfl

/-! ### after impl_Clue_fits -/
theorem fits_12 (k a b : Int) (s : ByteArray) (hs : s.size ≤ 7) (hst : stateB s = true) (hc : clueB s.size k a b = true) :
    Ev (fun n => spec_pzFits.f n k a b s) (fitsB k a b s) ∧ ∀ n, 12 ≤ n → impl_Clue_fits.f n k a b s = some (fitsB k a b s) := by
  have hb := stateB_bits hst
  have h1 : 1 ≤ (s.size : Int) := by unfold stateB at hst; simp only [Bool.and_eq_true] at hst; exact inB_lo hst.1
  obtain ⟨ha, hk0, hk4, hk1⟩ := okArg_of h1 (by omega) hc
  have ht := told_ev k a b s hs hst ha ⟨hk0, hk4⟩
  unfold fitsB
  by_cases c1 : k = 1
  · subst c1
    obtain ⟨K2, hv⟩ := pzValue_ev 1 0 s hs hb (by simp [okArg])
    refine ⟨⟨K2, fun n hn => ?_⟩, fun n hn => ?_⟩
    · have := hv n hn
      simp only at this
      simp [spec_pzFits.f, this]
    · have := ht n hn
      simp only [if_true] at this
      have e := hk1 rfl
      subst e
      simp [impl_Clue_fits.f, this]
  · obtain ⟨K2, hv⟩ := pzValue_ev k a s hs hb ha
    refine ⟨⟨K2, fun n hn => ?_⟩, fun n hn => ?_⟩
    · have := hv n hn
      simp only at this
      simp [spec_pzFits.f, this, c1]
    · have := ht n hn
      simp only [if_neg c1] at this
      simp [impl_Clue_fits.f, this, c1]
/-! ### after spec_pzHidden -/
theorem pzHidden_ev (s : ByteArray) : Ev (fun k => spec_pzHidden.f k s) (hiddenB s) := by
  obtain ⟨K, h⟩ := riGood_ev s
  refine ⟨K, fun k hk => ?_⟩
  have := h k hk
  simp only at this
  simp only [spec_pzHidden.f, this, Option.bind_some, hiddenB]
  cases stateB s
  · rfl
  · simp only [if_true, Bool.true_and]
    congr 1
    rw [Bool.eq_iff_iff]
    simp
    omega

/-! ### after impl_isHidden -/
theorem isHidden_eq (s : ByteArray) (h : s.size ≤ 9223372036854775807) : impl_isHidden.f s = some (hiddenB s) := by
  simp only [impl_isHidden.f, isState_eq s h, Option.bind_some, hiddenB]
  cases stateB s
  · rfl
  · simp only [if_true, Bool.true_and]
    congr 1
    rw [Bool.eq_iff_iff]
    simp
    omega

/-! ### after impl_fitting -/
def stS (r : Int) (n : Nat) : ByteArray := (spec_riState.f 40 r n).getD ⟨#[]⟩
def stChk (r n : Nat) : Bool :=
  match impl_state.f 40 r n, spec_riState.f 40 r n with
  | some a, some b => a.data.toList == b.data.toList && stateB a && a.size == r
  | _, _ => false
theorem st_all : ((List.range 8).all fun r => r == 0 || (List.range (2 ^ r)).all fun n => stChk r n) = true := by decide +kernel
theorem st_of (r n : Nat) (h1 : 1 ≤ r) (h7 : r ≤ 7) (hn : n < 2 ^ r) : (∀ k, 40 ≤ k → impl_state.f k r n = some (stS r n)) ∧ (∀ k, 40 ≤ k → spec_riState.f k r n = some (stS r n)) ∧ stateB (stS r n) = true ∧ (stS r n).size = r := by
  have h := List.all_eq_true.1 st_all r (List.mem_range.2 (by omega))
  simp only [Bool.or_eq_true, beq_iff_eq] at h
  have h := List.all_eq_true.1 (h.resolve_left (by omega)) n (List.mem_range.2 hn)
  unfold stChk at h
  unfold stS
  split at h
  · rename_i a b ha hb
    simp only [Bool.and_eq_true, beq_iff_eq] at h
    obtain ⟨⟨e, hs⟩, hz⟩ := h
    have e2 : a = b := by
      have : a.data = b.data := Array.toList_inj.1 e
      cases a; cases b; simp_all
    subst e2
    rw [hb]
    exact ⟨fun k hk => at_rounds (impl_state.mono r n) hk ha, fun k hk => at_rounds (spec_riState.mono r n) hk hb, hs, hz⟩
  · cases h
theorem shl_pow (r : Nat) (h1 : 1 ≤ r) (h7 : r ≤ 7) : shl .i64 1 (r : Int) = ((2 ^ r : Nat) : Int) := by
  have : r = 1 ∨ r = 2 ∨ r = 3 ∨ r = 4 ∨ r = 5 ∨ r = 6 ∨ r = 7 := by omega
  rcases this with rfl | rfl | rfl | rfl | rfl | rfl | rfl <;> decide +kernel
def fitP (r : Int) (l : List S59) (n : Nat) : Bool := l.all fun x => fitsB x.f0 x.f1 x.f2 (stS r n)
/-- The states that fit all of some clues, by their numbers. -/
def solB (r : Int) (l : List S59) : List ByteArray := ((List.range (2 ^ r.toNat)).filter (fitP r l)).map (stS r)
theorem puzzle_of {r : Int} {l : List S59} (h : isPuzzleB r l = true) : 1 ≤ r ∧ r ≤ 7 ∧ l.length ≤ 6 ∧ ∀ x ∈ l, clueB r x.f0 x.f1 x.f2 = true := by
  unfold isPuzzleB at h
  simp only [Bool.and_eq_true, decide_eq_true_eq, Bool.not_eq_true', List.any_eq_false] at h
  refine ⟨inB_lo h.1.1, inB_hi h.1.1, h.1.2, fun x hx => ?_⟩
  have := h.2 x hx
  simp only [isClueB, h.1.1, Bool.true_and, Bool.not_eq_true', Bool.not_eq_false] at this
  exact this
theorem takeN_eq (r n : Nat) (l : List S59) (h1 : 1 ≤ r) (h7 : r ≤ 7) (hn : n < 2 ^ r) (hl : ∀ x ∈ l, clueB r x.f0 x.f1 x.f2 = true) : takeN r l n = some (fitP r l n) := by
  obtain ⟨ha, _, hs, hz⟩ := st_of r n h1 h7 hn
  unfold takeN
  rw [ha 40 (Nat.le_refl _), Option.bind_some]
  have hf : ∀ x ∈ l, impl_Clue_fits.f 40 x.f0 x.f1 x.f2 (stS r n) = some (fitsB x.f0 x.f1 x.f2 (stS r n)) := fun x hx =>
    (fits_12 x.f0 x.f1 x.f2 (stS r n) (by omega) hs (by rw [hz]; exact hl x hx)).2 40 (by omega)
  unfold fitAll
  rw [if_pos (List.all_eq_true.2 fun x hx => by rw [hf x hx]; rfl)]
  congr 1
  unfold fitP
  rw [List.all_eq_not_any_not]
  congr 1
  rw [Bool.eq_iff_iff, List.any_eq_true, List.any_eq_true]
  constructor
  · rintro ⟨x, hx, h⟩
    exact ⟨x, hx, by rw [hf x hx] at h; exact h⟩
  · rintro ⟨x, hx, h⟩
    exact ⟨x, hx, by rw [hf x hx]; exact h⟩
theorem with_l0 (T : Int → Option Bool) (p : Nat → Bool) (r N : Nat) (st : Nat → ByteArray) (hN : N ≤ 128) (hT : ∀ i, i < N → T i = some (p i)) (hst : ∀ i, i < N → ∀ k, 40 ≤ k → impl_state.f k r i = some (st i)) :
    ∀ (m n : Nat) (acc : List ByteArray) (k : Nat), n + m = N → m + 41 ≤ k → acc.length ≤ n → impl_withNumbers.l0 T k r acc N n = some (acc ++ ((List.range' n m).filter p).map st) := by
  intro m
  induction m with
  | zero =>
    intro n acc k hn hk ha
    obtain ⟨k, rfl⟩ : ∃ j, k = j + 1 := ⟨k - 1, by omega⟩
    rw [impl_withNumbers.l0, if_neg (by omega)]
    simp
  | succ m ih =>
    intro n acc k hn hk ha
    obtain ⟨k, rfl⟩ : ∃ j, k = j + 1 := ⟨k - 1, by omega⟩
    have ew : wrap64 ((n : Int) + 1) = ((n + 1 : Nat) : Int) := by rw [w64 (by omega) (by omega)]; omega
    rw [impl_withNumbers.l0, if_pos (by omega), hT n (by omega), Option.bind_some, ew, List.range'_succ, List.filter_cons]
    cases hp : p n
    · simp only [Bool.false_eq_true, if_false]
      exact ih (n + 1) acc k (by omega) (by omega) (by omega)
    · simp only [if_true]
      rw [hst n (by omega) k (by omega), Option.bind_some, if_pos (by omega)]
      rw [ih (n + 1) (acc ++ [st n]) k (by omega) (by omega) (by simp; omega)]
      simp
theorem fitting_eq (r : Int) (l : List S59) (h : isPuzzleB r l = true) : impl_fitting.f r l = some (solB r l) := by
  obtain ⟨h1, h7, hl, hc⟩ := puzzle_of h
  obtain ⟨n, rfl⟩ : ∃ n : Nat, r = n := ⟨r.toNat, by omega⟩
  have hp : 2 ^ n ≤ 2 ^ 7 := Nat.pow_le_pow_right (by omega) (by omega)
  have e := with_l0 (takeN n l) (fitP n l) n (2 ^ n) (stS n) (by omega) (fun i hi => takeN_eq n i l (by omega) (by omega) hi hc) (fun i hi => (st_of n i (by omega) (by omega) hi).1) (2 ^ n) 0 [] 200 (by omega) (by omega) (by simp)
  unfold impl_fitting.f impl_withNumbers.f
  rw [if_pos (by omega), shl_pow n (by omega) (by omega)]
  have e' : impl_withNumbers.l0 (takeN n l) 200 n [] ((2 ^ n : Nat) : Int) 0 = _ := e
  rw [e']
  simp [solB, List.range_eq_range']
theorem solB_length (r : Int) (l : List S59) : (solB r l).length ≤ 2 ^ r.toNat := by
  unfold solB
  rw [List.length_map]
  exact Nat.le_trans (List.length_filter_le _ _) (by simp)

/-! ### after impl_Puzzle_solutions -/
theorem solutions_eq (r : Int) (l : List S59) (h : isPuzzleB r l = true) : impl_Puzzle_solutions.f r l = some (solB r l) := by
  simp [impl_Puzzle_solutions.f, fitting_eq r l h]

/-! ### after impl_fitting -/
theorem pzAll_l1 (r : Int) (l : List S59) (acc : List ByteArray) (n : Int) (s : ByteArray) (hl : l.length ≤ 6) (p : S59 → Bool) (hp : ∀ x ∈ l, Ev (fun k => spec_pzFits.f k x.f0 x.f1 x.f2 s) (p x)) (hacc : acc.length ≤ 128) (R : List ByteArray) :
    ∀ (m i : Nat) (fl : Bool), i + m = l.length → Ev (fun k => if (fl && (l.drop i).all p) = true then spec_pzAll.l0 k r l (acc ++ [s]) (wrap64 (n + 1)) else spec_pzAll.l0 k r l acc (wrap64 (n + 1))) R → Ev (fun k => spec_pzAll.l1 k r l acc n s fl l (l.length : Int) (i : Int)) R := by
  intro m
  induction m with
  | zero =>
    intro i fl hi h
    refine Ev.next ⟨0, fun k _ => ?_⟩ h
    rw [spec_pzAll.l1, if_neg (by omega), List.drop_of_length_le (by omega)]
    cases fl
    · simp
    · rw [if_pos rfl, if_pos (by omega)]
      simp
  | succ m ih =>
    intro i fl hi h
    have hi' : i < l.length := by omega
    have ew : wrap64 ((i : Int) + 1) = ((i + 1 : Nat) : Int) := by rw [w64 (by omega) (by omega)]; omega
    have e : rd_T59 l (i : Int) = l[i] := by simp [rd_T59, hi']
    have hd : l.drop i = l[i] :: l.drop (i + 1) := (List.getElem_cons_drop hi').symm
    rw [hd, List.all_cons] at h
    obtain ⟨K, hK⟩ := hp l[i] (List.getElem_mem hi')
    cases fl with
    | true =>
      refine Ev.next (f := fun k => spec_pzAll.l1 k r l acc n s (p l[i]) l (l.length : Int) ((i + 1 : Nat) : Int)) ⟨K, fun k hk => ?_⟩ (ih (i + 1) (p l[i]) (by omega) (by simpa using h))
      have := hK k hk
      simp only at this
      rw [spec_pzAll.l1, if_pos (by omega), if_pos (by omega), if_pos (by omega), if_pos rfl, e, this, Option.bind_some, ew]
    | false =>
      refine Ev.next (f := fun k => spec_pzAll.l1 k r l acc n s false l (l.length : Int) ((i + 1 : Nat) : Int)) ⟨0, fun k hk => ?_⟩ (ih (i + 1) false (by omega) (by simpa using h))
      rw [spec_pzAll.l1, if_pos (by omega), if_pos (by omega), if_pos (by omega), if_neg (by simp), ew]
theorem pzAll_l0 (r : Nat) (l : List S59) (h1 : 1 ≤ r) (h7 : r ≤ 7) (hl : l.length ≤ 6) (hc : ∀ x ∈ l, clueB r x.f0 x.f1 x.f2 = true) :
    ∀ (m n : Nat) (acc : List ByteArray), n + m = 2 ^ r → acc.length ≤ n → Ev (fun k => spec_pzAll.l0 k r l acc n) (acc ++ ((List.range' n m).filter (fitP r l)).map (stS r)) := by
  have hp : 2 ^ r ≤ 2 ^ 7 := Nat.pow_le_pow_right (by omega) (by omega)
  intro m
  induction m with
  | zero =>
    intro n acc hn ha
    refine Ev.last fun k => ?_
    rw [spec_pzAll.l0, if_pos (by omega), shl_pow r h1 h7, if_neg (by omega)]
    simp
  | succ m ih =>
    intro n acc hn ha
    have ew : wrap64 ((n : Int) + 1) = ((n + 1 : Nat) : Int) := by rw [w64 (by omega) (by omega)]; omega
    obtain ⟨_, hs, hb, hz⟩ := st_of r n h1 h7 (by omega)
    refine Ev.next (f := fun k => spec_pzAll.l1 k r l acc n (stS r n) true l (l.length : Int) ((0 : Nat) : Int)) ⟨40, fun k hk => ?_⟩ ?_
    · rw [spec_pzAll.l0, if_pos (by omega), shl_pow r h1 h7, if_pos (by omega), hs k hk, Option.bind_some]
      rfl
    · refine pzAll_l1 r l acc n (stS r n) hl (fun x => fitsB x.f0 x.f1 x.f2 (stS r n)) (fun x hx => (fits_12 x.f0 x.f1 x.f2 (stS r n) (by omega) hb (by rw [hz]; exact hc x hx)).1) (by omega) _ l.length 0 true (by omega) ?_
      rw [ew, List.range'_succ, List.filter_cons]
      simp only [List.drop_zero, Bool.true_and]
      show Ev (fun k => if fitP r l n = true then _ else _) _
      cases hq : fitP r l n
      · simp only [Bool.false_eq_true, if_false]
        exact ih (n + 1) acc (by omega) (by omega)
      · simp only [if_true]
        have := ih (n + 1) (acc ++ [stS r n]) (by omega) (by simp; omega)
        simpa using this
theorem pzAll_ev (r : Int) (l : List S59) (h : isPuzzleB r l = true) : Ev (fun k => spec_pzAll.f k r l) (solB r l) := by
  obtain ⟨h1, h7, hl, hc⟩ := puzzle_of h
  obtain ⟨n, rfl⟩ : ∃ n : Nat, r = n := ⟨r.toNat, by omega⟩
  have := pzAll_l0 n l (by omega) (by omega) hl hc (2 ^ n) 0 [] (by omega) (by simp)
  have e : Ev (fun k => spec_pzAll.l0 k n l [] 0) (solB n l) := by simpa [solB, List.range_eq_range'] using this
  exact e

/-! ### after laws_xTexts -/
theorem xTexts_ev (l : List ByteArray) (hl : l.length ≤ 9223372036854775806) : Ev (fun k => laws_xTexts.f k l l) true := by
  have key : ∀ (d i : Nat), i + d = l.length → Ev (fun k => laws_xTexts.l0 k l l (l.length : Int) (i : Int)) true := by
    intro d
    induction d with
    | zero => intro i hi; exact Ev.last fun k => by rw [laws_xTexts.l0, if_neg (by omega)]
    | succ d ih =>
      intro i hi
      refine Ev.next ⟨0, fun k _ => ?_⟩ (ih (i + 1) (by omega))
      rw [laws_xTexts.l0, if_pos (by omega), if_pos (by omega), if_pos (by omega), if_pos (by omega), if_pos rfl, w64 (by omega) (by omega)]
      rfl
  obtain ⟨K, hK⟩ := key l.length 0 (by omega)
  exact ⟨K, fun k hk => by simp only [laws_xTexts.f, if_true]; exact hK k hk⟩

/-! ### after laws_xText -/
theorem toList_iff (x y : ByteArray) : x.toList = y.toList ↔ x = y := by
  constructor
  · intro h
    rw [Lib.toList_data, Lib.toList_data] at h
    exact ByteArray.ext (Array.toList_inj.1 h)
  · intro h; rw [h]
theorem xText_ev (l : List ByteArray) (s : ByteArray) (hl : l.length ≤ 9223372036854775806) : Ev (fun k => laws_xText.f k l s) (decide (s ∈ l)) := by
  have key : ∀ (d i : Nat), i + d = l.length → Ev (fun k => laws_xText.l0 k s l (l.length : Int) (i : Int)) (decide (s ∈ l.drop i)) := by
    intro d
    induction d with
    | zero =>
      intro i hi
      rw [List.drop_of_length_le (by omega)]
      exact Ev.last fun k => by rw [laws_xText.l0, if_neg (by omega)]; rfl
    | succ d ih =>
      intro i hi
      have hlt : i < l.length := by omega
      have er : rdOf ByteArray.empty l (i : Int) = l[i] := by simp [rdOf, hlt]
      rw [List.drop_eq_getElem_cons hlt]
      by_cases c : l[i] = s
      · have e : decide (s ∈ l[i] :: l.drop (i + 1)) = true := decide_eq_true (by rw [c]; exact List.mem_cons_self)
        rw [e]
        exact Ev.last fun k => by rw [laws_xText.l0, if_pos (by omega), if_pos (by omega), if_pos (by omega), er, if_pos ((toList_iff _ _).2 c)]
      · have e : decide (s ∈ l[i] :: l.drop (i + 1)) = decide (s ∈ l.drop (i + 1)) := by
          rw [decide_eq_decide, List.mem_cons]
          exact ⟨fun h => h.resolve_left (fun h' => c h'.symm), .inr⟩
        rw [e]
        refine Ev.next ⟨0, fun k _ => ?_⟩ (ih (i + 1) (by omega))
        rw [laws_xText.l0, if_pos (by omega), if_pos (by omega), if_pos (by omega), er, if_neg (fun h => c ((toList_iff _ _).1 h)), w64 (by omega) (by omega)]
        rfl
  have := key l.length 0 (by omega)
  rwa [List.drop_zero] at this

/-! ### after impl_bits -/
/-- A state as a number, ring k being worth 2 to the power k. -/
def bitN : List UInt8 → Nat
  | [] => 0
  | b :: t => (b.toNat - 48) + 2 * bitN t
theorem bitN_lt : ∀ s : List UInt8, s.all isBit = true → bitN s < 2 ^ s.length
  | [], _ => by simp [bitN]
  | b :: t, h => by
    rw [List.all_cons, Bool.and_eq_true] at h
    have := bitN_lt t h.2
    rw [bitN, List.length_cons, Nat.pow_succ]
    rcases bit_cases h.1 with rfl | rfl
    · show (48 - 48) + 2 * bitN t < _; omega
    · show (49 - 48) + 2 * bitN t < _; omega
theorem pow20 {n : Nat} (h : n ≤ 20) : 2 ^ n ≤ 1048576 := Nat.le_trans (Nat.pow_le_pow_right (by omega) h) (by decide)
theorem pow2_le {a b : Nat} (h : a ≤ b) : 2 ^ a ≤ 2 ^ b := Nat.pow_le_pow_right (by omega) h
theorem bits_l0 (s : ByteArray) (hs : s.size ≤ 20) (hb : s.data.toList.all isBit = true) : ∀ i : Nat, i ≤ s.data.toList.length → Ev (fun k => impl_bits.l0 k s (bitN (s.data.toList.drop i) : Int) ((i : Int) - 1)) (bitN s.data.toList : Int)
  | 0, _ => Ev.last fun k => by rw [impl_bits.l0, if_neg (by omega), List.drop_zero]
  | i + 1, h => by
    have hz := Lib.size_eq s
    have hlt : i < s.data.toList.length := by omega
    have hall : ∀ x ∈ s.data.toList.drop i, isBit x = true := fun x hx => List.all_eq_true.1 hb x (List.mem_of_mem_drop hx)
    have hl := bitN_lt (s.data.toList.drop i) (List.all_eq_true.2 hall)
    have hp := pow20 (n := (s.data.toList.drop i).length) (by rw [List.length_drop]; omega)
    have hd := List.drop_eq_getElem_cons hlt
    have e : bitN (s.data.toList.drop i) = (s.data.toList[i].toNat - 48) + 2 * bitN (s.data.toList.drop (i + 1)) := by rw [hd, bitN]
    have hbit := hall s.data.toList[i] (by rw [hd]; exact List.mem_cons_self)
    have eb := bt_nat s i hlt
    have ei : ((i + 1 : Nat) : Int) - 1 = (i : Int) := by omega
    refine Ev.next ⟨0, fun k _ => ?_⟩ (bits_l0 s hs hb i (by omega))
    rw [impl_bits.l0, ei, if_pos (by omega), if_pos (by omega), if_pos (by omega), eb, e]
    have h48 : 48 ≤ s.data.toList[i].toNat ∧ s.data.toList[i].toNat ≤ 49 := by
      rcases bit_cases hbit with h | h <;> rw [h] <;> decide
    rw [w64 (a := 2 * (bitN (s.data.toList.drop (i + 1)) : Int)) (by omega) (by omega), w64 (by omega) (by omega), w64 (by omega) (by omega)]
    congr 1
    omega
theorem bits_ev (s : ByteArray) (hs : s.size ≤ 20) (hb : s.data.toList.all isBit = true) : Ev (fun k => impl_bits.f k s) (bitN s.data.toList : Int) := by
  have hz := Lib.size_eq s
  obtain ⟨K, hK⟩ := bits_l0 s hs hb s.data.toList.length (Nat.le_refl _)
  refine ⟨K, fun k hk => ?_⟩
  have := hK k hk
  rw [List.drop_length] at this
  unfold impl_bits.f
  rw [hz, w64 (by omega) (by omega)]
  exact this

/-! ### after impl_unreflected -/
def unR : Nat → Nat → Nat
  | 0, _ => 0
  | f + 1, g => g ^^^ unR f (g / 2)
theorem unR_zero : ∀ f, unR f 0 = 0
  | 0 => rfl
  | f + 1 => by rw [unR, Nat.zero_div, unR_zero f]; rfl
theorem unR_half : ∀ (f g : Nat), g < 2 ^ (f + 1) → unR (f + 1) g / 2 = unR f (g / 2)
  | 0, g, h => by
    have : g < 2 := by simpa using h
    simp only [unR, Nat.xor_zero]; omega
  | f + 1, g, h => by
    rw [Nat.pow_succ] at h
    rw [unR, Nat.xor_div_two, unR_half f (g / 2) (by omega), unR]
theorem unR_fix : ∀ (f g : Nat), g < 2 ^ f → g ^^^ (unR f g / 2) = unR f g
  | 0, g, h => by
    have : g = 0 := by simpa using h
    subst this; rfl
  | f + 1, g, h => by rw [unR_half f g h, unR]
theorem xor_i64 (a b : Nat) (ha : a < 4611686018427387904) (hb : b < 4611686018427387904) : Go.bits .xor .i64 (a : Int) (b : Int) = ((a ^^^ b : Nat) : Int) := by
  have ha' : a % 2 ^ IntKind.i64.bits = a := Nat.mod_eq_of_lt (Nat.lt_of_lt_of_le ha (by decide))
  have hb' : b % 2 ^ IntKind.i64.bits = b := Nat.mod_eq_of_lt (Nat.lt_of_lt_of_le hb (by decide))
  have hx : a ^^^ b < 2 ^ 62 := Nat.xor_lt_two_pow (by simpa using ha) (by simpa using hb)
  simp only [Go.bits, BitVec.ofInt_natCast, BitVec.toNat_xor, BitVec.toNat_ofNat, ha', hb']
  have e62 : (2 : Nat) ^ 62 = 4611686018427387904 := by decide
  rw [i64_w, w64 (by omega) (by omega)]
theorem unref_l0 : ∀ (f g n : Nat), f ≤ 40 → g < 2 ^ f → n < 2 ^ 40 → Ev (fun k => impl_unreflected.l0 k (g : Int) (n : Int)) ((n ^^^ unR f g : Nat) : Int)
  | 0, g, n, _, hg, _ => by
    have : g = 0 := by simpa using hg
    subst this
    refine Ev.last fun k => ?_
    rw [impl_unreflected.l0, if_neg (by omega), unR, Nat.xor_zero]
  | f + 1, g, n, hf, hg, hn => by
    have h1 := pow2_le hf
    have e40 : (2 : Nat) ^ 40 = 1099511627776 := by decide
    by_cases c : g = 0
    · subst c
      refine Ev.last fun k => ?_
      rw [impl_unreflected.l0, if_neg (by omega), unR_zero, Nat.xor_zero]
    · have hx : n ^^^ g < 2 ^ 40 := Nat.xor_lt_two_pow hn (by omega)
      have e : n ^^^ unR (f + 1) g = (n ^^^ g) ^^^ unR f (g / 2) := by rw [unR, Nat.xor_assoc]
      rw [e]
      have hg2 : g / 2 < 2 ^ f := by rw [Nat.pow_succ] at hg; omega
      refine Ev.next ⟨0, fun k _ => ?_⟩ (unref_l0 f (g / 2) (n ^^^ g) (by omega) hg2 hx)
      have et : Int.tdiv (g : Int) 2 = ((g / 2 : Nat) : Int) := rfl
      rw [impl_unreflected.l0, if_pos (by omega), xor_i64 n g (by omega) (by omega), et, w64 (by omega) (by omega)]

/-! ### after impl_number -/
theorem unR_grN : ∀ s : List UInt8, s.all isBit = true → unR s.length (bitN s) = grN s
  | [], _ => rfl
  | b :: t, h => by
    rw [List.all_cons, Bool.and_eq_true] at h
    have ih := unR_grN t h.2
    have hl := bitN_lt t h.2
    have hf := unR_fix t.length (bitN t) hl
    rw [ih] at hf
    have hb : b.toNat - 48 < 2 ∧ (b.toNat - 48) % 2 = b.toNat % 2 := by
      rcases bit_cases h.1 with rfl | rfl <;> decide
    have e1 : bitN (b :: t) / 2 = bitN t := by rw [bitN]; omega
    have e2 : bitN (b :: t) % 2 = b.toNat % 2 := by rw [bitN]; omega
    rw [List.length_cons, unR, e1, ih]
    show bitN (b :: t) ^^^ grN t = 2 * grN t + (b.toNat + grN t) % 2
    have d : (bitN (b :: t) ^^^ grN t) / 2 = grN t := by rw [Nat.xor_div_two, e1, hf]
    have m : (bitN (b :: t) ^^^ grN t) % 2 = (b.toNat + grN t) % 2 := by
      have q := @Nat.xor_mod_two_eq_one (bitN (b :: t)) (grN t)
      generalize (bitN (b :: t) ^^^ grN t) = x at q ⊢
      generalize bitN (b :: t) = y at q e2
      generalize grN t = z at q ⊢
      by_cases c1 : y % 2 = 1
      · by_cases c2 : z % 2 = 1
        · have : ¬ x % 2 = 1 := fun h => q.1 h ⟨fun _ => c2, fun _ => c1⟩
          omega
        · have : x % 2 = 1 := q.2 (fun h => c2 (h.1 c1))
          omega
      · by_cases c2 : z % 2 = 1
        · have : x % 2 = 1 := q.2 (fun h => c1 (h.2 c2))
          omega
        · have : ¬ x % 2 = 1 := fun h => q.1 h ⟨fun h => absurd h c1, fun h => absurd h c2⟩
          omega
    omega
theorem state_facts {s : ByteArray} (h : stateB s = true) : 1 ≤ s.size ∧ s.size ≤ 20 ∧ s.data.toList.all isBit = true ∧ s.data.toList.length = s.size := by
  simp only [stateB, Bool.and_eq_true] at h
  have h1 := inB_lo h.1
  have h2 := inB_hi h.1
  exact ⟨by omega, by omega, h.2, (Lib.size_eq s).symm⟩
theorem number_ev {s : ByteArray} (h : stateB s = true) : Ev (fun k => impl_number.f k s) (grN s.data.toList : Int) := by
  obtain ⟨h1, h2, h3, h4⟩ := state_facts h
  obtain ⟨K1, e1⟩ := bits_ev s h2 h3
  have hl := bitN_lt s.data.toList h3
  obtain ⟨K2, e2⟩ := unref_l0 s.data.toList.length (bitN s.data.toList) 0 (by omega) hl (by decide)
  refine ⟨K1 + K2, fun k hk => ?_⟩
  have e1 := e1 k (by omega)
  have e2 := e2 k (by omega)
  simp only at e1 e2
  rw [Nat.zero_xor, unR_grN _ h3] at e2
  dsimp only
  rw [impl_number.f, e1, Option.bind_some]
  unfold impl_unreflected.f
  have e0 : ((0 : Nat) : Int) = 0 := rfl
  rw [e0] at e2
  rw [e2]
  rfl

/-! ### after spec_riNumber -/
/-! ### after impl_Solutions -/
def solsR (r : Int) (l : List S59) : List ByteArray × Bool := if isPuzzleB r l = true then (solB r l, true) else ([], false)
theorem implSolutions_eq (r : Int) (l : List S59) : impl_Solutions.f r l = some (solsR r l) := by
  unfold solsR
  cases h : isPuzzleB r l
  · simp [impl_Solutions.f, impl_IsPuzzle.f, h]
  · simp [impl_Solutions.f, impl_IsPuzzle.f, h, solutions_eq r l h]

/-! ### after spec_pzSolved -/
theorem pzSolved_ev (r : Int) (l : List S59) (h : isPuzzleB r l = true) : Ev (fun k => spec_pzSolved.f k r l) (decide ((solB r l).length = 1)) := by
  obtain ⟨K2, h2⟩ := pzAll_ev r l h
  refine ⟨K2, fun k hk => ?_⟩
  have h2 := h2 k (by omega)
  simp only at h2
  simp only [spec_pzSolved.f, h2, Option.bind_some]
  congr 1
  rw [Bool.eq_iff_iff]
  simp
  omega

/-! ### after impl_IsSolved -/
def isSolvedR (r : Int) (l : List S59) : Bool × Bool := if isPuzzleB r l = true then (decide ((solB r l).length = 1), true) else (false, false)
theorem implIsSolved_eq (r : Int) (l : List S59) : impl_IsSolved.f r l = some (isSolvedR r l) := by
  unfold isSolvedR
  simp only [impl_IsSolved.f, implSolutions_eq, Option.bind_some, solsR]
  cases h : isPuzzleB r l
  · simp
  · simp only [if_true]
    congr 2
    rw [Bool.eq_iff_iff]
    simp
    omega

/-! ### after impl_Puzzle_without -/
theorem without_eq (r : Int) (l : List S59) (a : Int) (h3 : 0 ≤ a) (h4 : a < l.length) (hl : l.length ≤ 1048576) : impl_Puzzle_without.f r l a = some (r, l.eraseIdx a.toNat) := by
  have e : wrap64 (a + 1) = a + 1 := w64 (by omega) (by omega)
  have hc : impl_Clue_122.f l = some l := if_pos (by omega)
  have hd : impl_Clue_145.f l a (a + 1) = some (l.eraseIdx a.toNat) := if_pos ⟨h3, rfl, by omega⟩
  simp [impl_Puzzle_without.f, hc, hd, e]
theorem puzzle_erase {r : Int} {l : List S59} (h : isPuzzleB r l = true) (i : Nat) : isPuzzleB r (l.eraseIdx i) = true := by
  have hl := (puzzle_of h).2.2.1
  have hle := List.length_eraseIdx_le l i
  unfold isPuzzleB at h ⊢
  simp only [Bool.and_eq_true, decide_eq_true_eq, Bool.not_eq_true', List.any_eq_false] at h ⊢
  exact ⟨⟨h.1.1, by omega⟩, fun x hx => h.2 x (List.mem_of_mem_eraseIdx hx)⟩

/-! ### after impl_NeedlessClues -/
def needP (r : Int) (l : List S59) (i : Nat) : Bool := decide ((solB r (l.eraseIdx i)).length = (solB r l).length)
def needR (r : Int) (l : List S59) : List Int × Bool := if isPuzzleB r l = true then (((List.range' 0 l.length).filter (needP r l)).map (fun i : Nat => (i : Int)), true) else ([], false)

/-! ### after impl_NeedlessClues -/
theorem implNeed_l0 (r : Int) (l : List S59) (h : isPuzzleB r l = true) : ∀ (m i : Nat) (acc : List Int), i + m = l.length → acc.length ≤ i → Ev (fun k => impl_NeedlessClues.l0 k ((solB r l).length : Int) acc (l.length : Int) (i : Int) r l) (acc ++ ((List.range' i m).filter (needP r l)).map (fun i : Nat => (i : Int)), true) := by
  have hl := (puzzle_of h).2.2.1
  intro m
  induction m with
  | zero =>
    intro i acc hi ha
    refine Ev.last fun k => ?_
    rw [impl_NeedlessClues.l0, if_neg (by omega)]
    simp
  | succ m ih =>
    intro i acc hi ha
    have hK := solutions_eq r _ (puzzle_erase h i)
    have ew : wrap64 ((i : Int) + 1) = ((i + 1 : Nat) : Int) := by rw [w64 (by omega) (by omega)]; omega
    have hw := without_eq r l (i : Int) (by omega) (by omega) (by omega)
    rw [List.range'_succ, List.filter_cons]
    cases c : needP r l i
    · have c' : ¬ ((solB r (l.eraseIdx i)).length : Int) = ((solB r l).length : Int) := by
        simp only [needP, decide_eq_false_iff_not] at c; omega
      refine Ev.next (f := fun k => impl_NeedlessClues.l0 k ((solB r l).length : Int) acc (l.length : Int) ((i + 1 : Nat) : Int) r l) ⟨0, fun k hk => ?_⟩ ?_
      · rw [impl_NeedlessClues.l0, if_pos (by omega), hw, Option.bind_some, Int.toNat_natCast, hK, Option.bind_some, if_neg c', ew]
      · exact ih (i + 1) acc (by omega) (by omega)
    · have c' : ((solB r (l.eraseIdx i)).length : Int) = ((solB r l).length : Int) := by
        simp only [needP, decide_eq_true_eq] at c; omega
      refine Ev.next (f := fun k => impl_NeedlessClues.l0 k ((solB r l).length : Int) (acc ++ [(i : Int)]) (l.length : Int) ((i + 1 : Nat) : Int) r l) ⟨0, fun k hk => ?_⟩ ?_
      · rw [impl_NeedlessClues.l0, if_pos (by omega), hw, Option.bind_some, Int.toNat_natCast, hK, Option.bind_some, if_pos c', if_pos (by omega), ew]
      · have := ih (i + 1) (acc ++ [(i : Int)]) (by omega) (by simp; omega)
        simpa using this
theorem implNeed_ev (r : Int) (l : List S59) : Ev (fun k => impl_NeedlessClues.f k r l) (needR r l) := by
  have h1 : impl_IsPuzzle.f r l = some (isPuzzleB r l) := rfl
  unfold needR
  cases h : isPuzzleB r l
  · rw [h] at h1
    exact ⟨0, fun k hk => by simp [impl_NeedlessClues.f, h1]⟩
  · rw [h] at h1
    have h3 := solutions_eq r l h
    obtain ⟨K2, h2⟩ := implNeed_l0 r l h l.length 0 [] (by omega) (by simp)
    refine ⟨K2, fun k hk => ?_⟩
    have h2 := h2 k (by omega)
    simp only at h2
    simp only [impl_NeedlessClues.f, h1, h3, Option.bind_some, if_true]
    exact h2

/-! ### after spec_HarderPuzzle -/
def hardL (r : Int) : Nat → List S59 → Nat → List S59
  | 0, l, _ => l
  | m + 1, l, i => if (solB r (l.eraseIdx i)).length = 1 then hardL r m (l.eraseIdx i) i else hardL r m l (i + 1)
def hardR (r : Int) (l : List S59) : Int × List S59 × Bool := if isPuzzleB r l = true ∧ (solB r l).length = 1 then (r, hardL r l.length l 0, true) else (0, [], false)
theorem hardL_length (r : Int) : ∀ (m : Nat) (l : List S59) (i : Nat), (hardL r m l i).length ≤ l.length
  | 0, l, _ => Nat.le_refl _
  | m + 1, l, i => by
    unfold hardL
    split
    · exact Nat.le_trans (hardL_length r m _ i) (List.length_eraseIdx_le _ _)
    · exact hardL_length r m l (i + 1)
theorem specHard_l0 (r : Int) (x : List S59) : ∀ (m i : Nat) (l : List S59), isPuzzleB r l = true → i + m = l.length → Ev (fun k => spec_HarderPuzzle.l0 k l (i : Int) r x) (r, hardL r m l i, true) := by
  intro m
  induction m with
  | zero =>
    intro i l h hi
    refine Ev.last fun k => ?_
    rw [spec_HarderPuzzle.l0, if_neg (by omega)]
    rfl
  | succ m ih =>
    intro i l h hi
    have hl := (puzzle_of h).2.2.1
    obtain ⟨K, hK⟩ := pzSolved_ev r _ (puzzle_erase h i)
    have ew : wrap64 ((i : Int) + 1) = ((i + 1 : Nat) : Int) := by rw [w64 (by omega) (by omega)]; omega
    have hw := pzWithout_eq l (i : Int) (by omega) (by omega) (by omega)
    unfold hardL
    by_cases c : (solB r (l.eraseIdx i)).length = 1
    · rw [if_pos c]
      refine Ev.next (f := fun k => spec_HarderPuzzle.l0 k (l.eraseIdx i) (i : Int) r x) ⟨K, fun k hk => ?_⟩ (ih i (l.eraseIdx i) (puzzle_erase h i) (by rw [List.length_eraseIdx, if_pos (by omega)]; omega))
      have := hK k hk
      simp only [c, decide_true] at this
      rw [spec_HarderPuzzle.l0, if_pos (by omega), hw, Option.bind_some, Int.toNat_natCast, this, Option.bind_some, if_pos rfl]
    · rw [if_neg c]
      refine Ev.next (f := fun k => spec_HarderPuzzle.l0 k l ((i + 1 : Nat) : Int) r x) ⟨K, fun k hk => ?_⟩ (ih (i + 1) l h (by omega))
      have := hK k hk
      simp only [c, decide_false] at this
      rw [spec_HarderPuzzle.l0, if_pos (by omega), hw, Option.bind_some, Int.toNat_natCast, this, Option.bind_some, if_neg (by simp), ew]
theorem specHard_ev (r : Int) (l : List S59) (hl : l.length ≤ 1048576) : Ev (fun k => spec_HarderPuzzle.f k r l) (hardR r l) := by
  obtain ⟨K1, h1⟩ := pzGood_ev r l (by omega)
  unfold hardR
  cases h : isPuzzleB r l
  · rw [h] at h1
    refine ⟨K1 + 1, fun k hk => ?_⟩
    obtain ⟨k, rfl⟩ : ∃ j, k = j + 1 := ⟨k - 1, by omega⟩
    have h1 := h1 (k + 1) (by omega)
    simp only at h1
    simp [spec_HarderPuzzle.f, h1, spec_HarderPuzzle.j0]
  · rw [h] at h1
    obtain ⟨K3, h3⟩ := pzSolved_ev r l h
    by_cases c : (solB r l).length = 1
    · rw [if_pos ⟨rfl, c⟩]
      obtain ⟨K2, h2⟩ := specHard_l0 r l l.length 0 l h (by omega)
      refine ⟨K1 + K2 + K3 + 1, fun k hk => ?_⟩
      obtain ⟨k, rfl⟩ : ∃ j, k = j + 1 := ⟨k - 1, by omega⟩
      have h1 := h1 (k + 1) (by omega)
      have h2 := h2 k (by omega)
      have h3 := h3 (k + 1) (by omega)
      simp only [c, decide_true] at h1 h2 h3
      simp only [spec_HarderPuzzle.f, h1, h3, Option.bind_some, if_true, spec_HarderPuzzle.j0, Bool.not_true, Bool.false_eq_true, if_false, List.nil_append, List.length_nil]
      rw [if_pos (by omega)]
      exact h2
    · refine ⟨K1 + K3 + 1, fun k hk => ?_⟩
      obtain ⟨k, rfl⟩ : ∃ j, k = j + 1 := ⟨k - 1, by omega⟩
      have h1 := h1 (k + 1) (by omega)
      have h3 := h3 (k + 1) (by omega)
      simp only [c, decide_false] at h1 h3
      simp [spec_HarderPuzzle.f, h1, h3, spec_HarderPuzzle.j0, c]

/-! ### after impl_HarderPuzzle -/
theorem implHard_l0 (r : Int) : ∀ (m i : Nat) (l : List S59), isPuzzleB r l = true → i + m = l.length → Ev (fun k => impl_HarderPuzzle.l0 k (i : Int) r l) (r, hardL r m l i, true) := by
  intro m
  induction m with
  | zero =>
    intro i l h hi
    refine Ev.last fun k => ?_
    rw [impl_HarderPuzzle.l0, if_neg (by omega)]
    rfl
  | succ m ih =>
    intro i l h hi
    have hl := (puzzle_of h).2.2.1
    have hK := solutions_eq r _ (puzzle_erase h i)
    have ew : wrap64 ((i : Int) + 1) = ((i + 1 : Nat) : Int) := by rw [w64 (by omega) (by omega)]; omega
    have hw := without_eq r l (i : Int) (by omega) (by omega) (by omega)
    unfold hardL
    by_cases c : (solB r (l.eraseIdx i)).length = 1
    · rw [if_pos c]
      refine Ev.next (f := fun k => impl_HarderPuzzle.l0 k (i : Int) r (l.eraseIdx i)) ⟨0, fun k hk => ?_⟩ (ih i (l.eraseIdx i) (puzzle_erase h i) (by rw [List.length_eraseIdx, if_pos (by omega)]; omega))
      rw [impl_HarderPuzzle.l0, if_pos (by omega), hw, Option.bind_some, Int.toNat_natCast, hK, Option.bind_some, if_pos (by omega)]
    · rw [if_neg c]
      refine Ev.next (f := fun k => impl_HarderPuzzle.l0 k ((i + 1 : Nat) : Int) r l) ⟨0, fun k hk => ?_⟩ (ih (i + 1) l h (by omega))
      rw [impl_HarderPuzzle.l0, if_pos (by omega), hw, Option.bind_some, Int.toNat_natCast, hK, Option.bind_some, if_neg (by omega), ew]
theorem implHard_ev (r : Int) (l : List S59) : Ev (fun k => impl_HarderPuzzle.f k r l) (hardR r l) := by
  have h1 := implIsSolved_eq r l
  unfold isSolvedR at h1
  unfold hardR
  cases h : isPuzzleB r l
  · rw [h] at h1
    refine ⟨1, fun k hk => ?_⟩
    obtain ⟨k, rfl⟩ : ∃ j, k = j + 1 := ⟨k - 1, by omega⟩
    simp [impl_HarderPuzzle.f, h1, impl_HarderPuzzle.j0]
  · rw [h] at h1
    simp only [if_true] at h1
    by_cases c : (solB r l).length = 1
    · rw [if_pos ⟨rfl, c⟩]
      have hl := (puzzle_of h).2.2.1
      have hc : impl_Clue_122.f l = some l := if_pos (by omega)
      obtain ⟨K2, h2⟩ := implHard_l0 r l.length 0 l h (by omega)
      refine ⟨K2 + 1, fun k hk => ?_⟩
      obtain ⟨k, rfl⟩ : ∃ j, k = j + 1 := ⟨k - 1, by omega⟩
      have h2 := h2 k (by omega)
      simp only [c, decide_true] at h1 h2
      simp only [impl_HarderPuzzle.f, h1, hc, Option.bind_some, if_true, impl_HarderPuzzle.j0, Bool.not_true, Bool.false_eq_true, if_false]
      exact h2
    · refine ⟨1, fun k hk => ?_⟩
      obtain ⟨k, rfl⟩ : ∃ j, k = j + 1 := ⟨k - 1, by omega⟩
      simp only [c, decide_false] at h1
      simp [impl_HarderPuzzle.f, h1, impl_HarderPuzzle.j0, c]

/-! ### after impl_MakePuzzle -/
set_option maxRecDepth 100000 in
theorem kdN_lt (z : Nat) : kdN z < 5 := Nat.mod_lt _ (by decide)
set_option maxRecDepth 100000 in
theorem two7 {n : Nat} (h : n ≤ 7) : 2 ^ n ≤ 128 := Nat.le_trans (Nat.pow_le_pow_right (by omega) h) (by decide)
set_option maxRecDepth 100000 in
theorem shl7 {n : Nat} (h1 : 1 ≤ n) (h : n ≤ 7) : shl .i64 1 (n : Int) = ((2 ^ n : Nat) : Int) := by
  have : n = 1 ∨ n = 2 ∨ n = 3 ∨ n = 4 ∨ n = 5 ∨ n = 6 ∨ n = 7 := by omega
  rcases this with rfl | rfl | rfl | rfl | rfl | rfl | rfl <;> decide +kernel
set_option maxRecDepth 100000 in
theorem argN_ok (s : ByteArray) (z : Nat) (h1 : 1 ≤ s.size) (h7 : s.size ≤ 7) : okArg s.size (kdN z : Nat) (argN s z : Nat) := by
  have h5 := kdN_lt z
  have hp := two7 h7
  have hp0 : 0 < 2 ^ s.size := Nat.pow_pos (by omega)
  have m1 : nxN (nxN z) % s.size < s.size := Nat.mod_lt _ (by omega)
  have m2 : nxN (nxN z) % 2 ^ s.size < 2 ^ s.size := Nat.mod_lt _ hp0
  unfold okArg argN
  by_cases c : kdN z = 0 ∨ kdN z = 4
  · rw [if_pos (by omega), if_pos c]; omega
  · rw [if_neg (by omega), if_neg c]
    by_cases c2 : kdN z = 2
    · rw [if_pos (by omega), if_pos c2]; omega
    · rw [if_neg (by omega), if_neg c2]
      by_cases c3 : kdN z = 3
      · rw [if_pos (by omega), if_pos c3]; omega
      · rw [if_neg (by omega)]; trivial
/-- The clue that is made. -/
def clueM (s : ByteArray) (z : Nat) : S59 := ⟨(kdN z : Nat), if ((kdN z : Nat) : Int) = 1 then valB 1 0 s else (argN s z : Nat), if ((kdN z : Nat) : Int) = 1 then 0 else valB (kdN z : Nat) (argN s z : Nat) s⟩
set_option maxRecDepth 100000 in
theorem toldP_eq (s : ByteArray) (z : Nat) (h7 : s.size ≤ 7) (hst : stateB s = true) : toldP s z = some ((clueM s z).f0, (clueM s z).f1, (clueM s z).f2) := by
  have h1 : 1 ≤ (s.size : Int) := by unfold stateB at hst; simp only [Bool.and_eq_true] at hst; exact inB_lo hst.1
  have h5 := kdN_lt z
  exact told_ev _ _ 0 s h7 hst (argN_ok s z (by omega) h7) ⟨by omega, by omega⟩ 40 (by omega)
def makeL (s : ByteArray) : Nat → Nat → List S59 → List S59
  | 0, _, acc => acc
  | n + 1, z, acc => makeL s n (nxN (nxN z)) (acc ++ [clueM s z])
set_option maxRecDepth 100000 in
theorem makeL_length (s : ByteArray) : ∀ (n z : Nat) (acc : List S59), (makeL s n z acc).length = acc.length + n
  | 0, _, _ => rfl
  | n + 1, z, acc => by rw [makeL, makeL_length s n, List.length_append, List.length_singleton]; omega
set_option maxRecDepth 100000 in
theorem mkP_eq (s : ByteArray) (h7 : s.size ≤ 7) (hst : stateB s = true) : ∀ (n z : Nat) (acc : List S59), mkP s n z acc = some (makeL s n z acc)
  | 0, _, _ => rfl
  | n + 1, z, acc => by
    rw [mkP, toldP_eq s z h7 hst, Option.bind_some]
    exact mkP_eq s h7 hst n _ _
set_option maxRecDepth 100000 in
theorem pzNext_eq (z : Nat) (hz : z < 10007) : spec_pzNext.f (z : Int) = some (nxN z : Int) := by
  unfold spec_pzNext.f
  rw [Int.mul_comm 181 (z : Int), nxN_int z hz]
set_option maxRecDepth 100000 in
theorem pzOf_ev (s : ByteArray) (kd : Nat) (a : Nat) (h7 : s.size ≤ 7) (hst : stateB s = true) (ha : okArg s.size kd a) : Ev (fun k => spec_pzOf.f k kd a s) ((kd : Int), if (kd : Int) = 1 then valB 1 0 s else (a : Int), if (kd : Int) = 1 then 0 else valB kd a s) := by
  obtain ⟨K2, h2⟩ := riOn_ev s (by omega)
  obtain ⟨K3, h3⟩ := pzValue_ev kd a s h7 (stateB_bits hst) ha
  refine ⟨K2 + K3, fun k hk => ?_⟩
  have h2 := h2 k (by omega)
  have h3 := h3 k (by omega)
  simp only at h2 h3
  by_cases c : (kd : Int) = 1
  · simp only [spec_pzOf.f, if_pos c, h2, Option.bind_some]
    rw [c]; rfl
  · simp only [spec_pzOf.f, if_neg c, h3, Option.bind_some]
/-- The ring or number that the reference gives to a clue. -/
def argS (s : ByteArray) (z : Nat) : Nat := if kdN z = 2 then nxN (nxN z) % 8 + 2 else if kdN z = 3 then nxN (nxN z) % 2 ^ s.size else nxN (nxN z) % s.size
set_option maxRecDepth 100000 in
theorem argS_ok (s : ByteArray) (z : Nat) (h1 : 1 ≤ s.size) (h7 : s.size ≤ 7) : okArg s.size (kdN z : Nat) (argS s z : Nat) := by
  have h := argN_ok s z h1 h7
  by_cases c : kdN z = 1
  · unfold okArg
    rw [if_neg (by omega), if_neg (by omega), if_neg (by omega)]
    trivial
  · have h5 := kdN_lt z
    have e : argS s z = argN s z := by
      unfold argS argN
      generalize nxN (nxN z) = Y
      generalize kdN z = d at c h5 ⊢
      have hc : d = 0 ∨ d = 2 ∨ d = 3 ∨ d = 4 := by omega
      rcases hc with rfl | rfl | rfl | rfl <;> simp
    rw [e]; exact h
set_option maxRecDepth 100000 in
theorem clueS_eq (s : ByteArray) (z : Nat) : (⟨((kdN z : Nat) : Int), (if ((kdN z : Nat) : Int) = 1 then valB 1 0 s else ((argS s z : Nat) : Int)), (if ((kdN z : Nat) : Int) = 1 then 0 else valB (kdN z : Nat) ((argS s z : Nat) : Int) s)⟩ : S59) = clueM s z := by
  unfold clueM
  have h5 := kdN_lt z
  by_cases c : kdN z = 1
  · rw [if_pos (by omega), if_pos (by omega), if_pos (by omega), if_pos (by omega)]
  · have e : argS s z = argN s z := by
      unfold argS argN
      generalize nxN (nxN z) = Y
      generalize kdN z = d at c h5 ⊢
      have hc : d = 0 ∨ d = 2 ∨ d = 3 ∨ d = 4 := by omega
      rcases hc with rfl | rfl | rfl | rfl <;> simp
    rw [e]
set_option maxRecDepth 100000 in
theorem specStep (s : ByteArray) (k n z : Nat) (r : Int) (acc : List S59) (h1 : 1 ≤ s.size) (h7 : s.size ≤ 7) (hz : z < 10007) (hn : n ≤ 6) (ha : acc.length < 7) (t : Int × Int × Int) (ht : spec_pzOf.f k ((kdN z : Nat) : Int) ((argS s z : Nat) : Int) s = some t) :
    spec_MakePuzzle.l0 (k + 1) s ((n + 1 : Nat) : Int) (z : Int) r acc = spec_MakePuzzle.l0 k s (n : Int) (nxN (nxN z) : Int) r (acc ++ [⟨t.1, t.2.1, t.2.2⟩]) := by
  have hmod : Int.tmod (nxN z : Int) 5 = (kdN z : Int) := tmodN (nxN z) 5
  have e1 := pzNext_eq z hz
  have e2 := pzNext_eq (nxN z) (nxN_lt z)
  have h5 := kdN_lt z
  unfold argS at ht
  generalize nxN (nxN z) = Y at e2 ht ⊢
  generalize nxN z = X at e1 e2 hmod ⊢
  generalize kdN z = d at h5 ht hmod
  have hmod8 : Int.tmod (Y : Int) 8 = ((Y % 8 : Nat) : Int) := tmodN _ 8
  have hmods : Int.tmod (Y : Int) (s.size : Int) = ((Y % s.size : Nat) : Int) := tmodN _ _
  have hsh := shl7 (n := s.size) (by omega) h7
  have hp0 : 0 < 2 ^ s.size := Nat.pow_pos (by omega)
  have hmodp : Int.tmod (Y : Int) (shl .i64 1 (s.size : Int)) = ((Y % 2 ^ s.size : Nat) : Int) := by rw [hsh]; exact tmodN _ _
  have ew : wrap64 (((n + 1 : Nat) : Int) - 1) = (n : Int) := by rw [w64 (by omega) (by omega)]; omega
  rw [spec_MakePuzzle.l0, if_pos (by omega), e1, Option.bind_some, e2, Option.bind_some, if_neg (by omega), hmod]
  by_cases c2 : d = 2
  · subst c2
    rw [if_pos rfl] at ht
    have e8 : wrap64 (((Y % 8 : Nat) : Int) + 2) = ((Y % 8 + 2 : Nat) : Int) := by rw [w64 (by omega) (by omega)]; omega
    rw [if_pos (by omega), hmod8, e8, ht, Option.bind_some, if_pos (by omega), ew]
  · by_cases c3 : d = 3
    · subst c3
      rw [if_neg (by omega), if_pos rfl] at ht
      rw [if_neg (by omega), if_pos (by omega), if_neg (by rw [hsh]; omega), hmodp, ht, Option.bind_some, if_pos (by omega), ew]
    · rw [if_neg c2, if_neg c3] at ht
      rw [if_neg (by omega), if_neg (by omega), hmods, ht, Option.bind_some, if_pos (by omega), ew]
set_option maxRecDepth 100000 in
theorem specMake_l0 (s : ByteArray) (h7 : s.size ≤ 7) (hst : stateB s = true) : ∀ (n z : Nat) (r : Int) (acc : List S59), z < 10007 → acc.length + n ≤ 6 → Ev (fun k => spec_MakePuzzle.l0 k s (n : Int) (z : Int) r acc) (r, makeL s n z acc, true)
  | 0, z, r, acc, _, _ => Ev.last fun k => by rw [spec_MakePuzzle.l0, if_neg (by omega)]; rfl
  | n + 1, z, r, acc, hz, hn => by
    have h1 : 1 ≤ (s.size : Int) := by unfold stateB at hst; simp only [Bool.and_eq_true] at hst; exact inB_lo hst.1
    have ih := specMake_l0 s h7 hst n (nxN (nxN z)) r (acc ++ [clueM s z]) (nxN_lt _) (by simp; omega)
    obtain ⟨K, hK⟩ := pzOf_ev s (kdN z) (argS s z) h7 hst (argS_ok s z (by omega) h7)
    refine Ev.next ⟨K, fun k hk => ?_⟩ ih
    have hK := hK k hk
    simp only at hK
    rw [specStep s k n z r acc (by omega) h7 hz (by omega) (by omega) _ hK]
    simp only [clueS_eq]
def makeR (s : ByteArray) (a b : Int) : Int × List S59 × Bool := if (hiddenB s && inB a 0 6 && inB b 0 9999) = true then ((s.size : Int), makeL s a.toNat b.toNat [], true) else (0, [], false)
set_option maxRecDepth 100000 in
theorem makeR_length (s : ByteArray) (a b : Int) : (makeR s a b).2.1.length ≤ 6 := by
  unfold makeR
  split
  · rename_i h
    simp only [Bool.and_eq_true] at h
    have := inB_hi h.1.2
    simp only [makeL_length, List.length_nil]
    omega
  · simp
set_option maxRecDepth 100000 in
theorem hidden_facts {s : ByteArray} (h : hiddenB s = true) : stateB s = true ∧ 1 ≤ s.size ∧ s.size ≤ 7 := by
  unfold hiddenB at h
  simp only [Bool.and_eq_true, decide_eq_true_eq] at h
  have h1 := h.1
  unfold stateB at h1
  simp only [Bool.and_eq_true] at h1
  have := inB_lo h1.1
  exact ⟨h.1, by omega, h.2⟩
set_option maxRecDepth 100000 in
theorem implMake_eq (s : ByteArray) (a b : Int) (hs : s.size ≤ 9223372036854775807) : impl_MakePuzzle.f s a b = some (makeR s a b) := by
  unfold impl_MakePuzzle.f makeR
  rw [isHidden_eq s hs, Option.bind_some]
  cases h : hiddenB s
  · simp
  · obtain ⟨h1, h2, h3⟩ := hidden_facts h
    cases c1 : inB a 0 6
    · simp
    · cases c2 : inB b 0 9999
      · simp
      · rw [if_pos rfl, if_pos rfl, if_pos rfl, if_pos ⟨by omega, h3⟩, mkP_eq s h3 h1]
        rfl
set_option maxRecDepth 100000 in
theorem specMake_ev (s : ByteArray) (a b : Int) : Ev (fun k => spec_MakePuzzle.f k s a b) (makeR s a b) := by
  obtain ⟨K, hK⟩ := pzHidden_ev s
  have hf : ∀ k, 1 ≤ k → spec_MakePuzzle.j0 k s a b true = some (0, [], false) := by
    intro k hk
    obtain ⟨k, rfl⟩ : ∃ m, k = m + 1 := ⟨k - 1, by omega⟩
    rw [spec_MakePuzzle.j0, if_pos rfl]
  have hl : ∀ x y z : Int, spec_l1In.f x y z = some (inB x y z) := inB_ite
  cases h : hiddenB s
  · refine ⟨K + 1, fun k hk => ?_⟩
    have := hK k (by omega)
    simp only at this
    simp [spec_MakePuzzle.f, this, h, hf k (by omega), makeR]
  · obtain ⟨h1, h2, h3⟩ := hidden_facts h
    cases c1 : inB a 0 6
    · refine ⟨K + 1, fun k hk => ?_⟩
      have := hK k (by omega)
      simp only at this
      simp [spec_MakePuzzle.f, this, h, hf k (by omega), makeR, hl, c1]
    · cases c2 : inB b 0 9999
      · refine ⟨K + 1, fun k hk => ?_⟩
        have := hK k (by omega)
        simp only at this
        simp [spec_MakePuzzle.f, this, h, hf k (by omega), makeR, hl, c1, c2]
      · have a0 := inB_lo c1
        have a1 := inB_hi c1
        have b0 := inB_lo c2
        have b1 := inB_hi c2
        obtain ⟨n, rfl⟩ : ∃ n : Nat, a = n := ⟨a.toNat, by omega⟩
        obtain ⟨z, rfl⟩ : ∃ n : Nat, b = n := ⟨b.toNat, by omega⟩
        obtain ⟨K2, h4⟩ := specMake_l0 s h3 h1 n z (s.size : Int) [] (by omega) (by simp; omega)
        refine ⟨K + K2 + 1, fun k hk => ?_⟩
        have := hK k (by omega)
        obtain ⟨k, rfl⟩ : ∃ m, k = m + 1 := ⟨k - 1, by omega⟩
        have h4 := h4 k (by omega)
        simp only at this h4
        simp only [spec_MakePuzzle.f, this, h, hl, c1, c2, Option.bind_some, if_true, Bool.not_true, makeR, Bool.and_self]
        rw [spec_MakePuzzle.j0, if_neg (by decide)]
        simpa using h4

/-! ### after impl_number -/
/-! ### after impl_apart -/
/-! ### after impl_apart -/
/-! ### after impl_state -/
theorem srd (a : List Int) (j i : Nat) (v : Int) (hj : j < a.length) : rd (a.set j v) (i : Int) = if i = j then v else rd a (i : Int) := by
  by_cases c : i = j
  · subst c; simp [rd, hj]
  · rw [if_neg c]
    simp [rd, List.getElem?_set_ne (show j ≠ i from fun e => c e.symm)]

/-! ### after impl_state -/
/-- The state of so many rings with a number. -/
def stB (L n : Nat) : ByteArray := ⟨(grS L n).toArray⟩
/-- Ring i of the state with number n. -/
def bitB (n i : Nat) : UInt8 := if (n / 2 ^ i + n / 2 ^ i / 2) % 2 = 1 then 49 else 48
theorem grS_at : ∀ (L n i : Nat) (h : i < (grS L n).length), (grS L n)[i] = bitB n i
  | 0, n, i, h => by rw [grS_length] at h; omega
  | L + 1, n, 0, h => by simp [grS, bitB]
  | L + 1, n, i + 1, h => by
    have h' : i < (grS L (n / 2)).length := by rw [grS_length] at h ⊢; omega
    have ih := grS_at L (n / 2) i h'
    have e : n / 2 / 2 ^ i = n / 2 ^ (i + 1) := by rw [Nat.div_div_eq_div_mul, Nat.pow_succ, Nat.mul_comm 2]
    unfold bitB at ih ⊢
    rw [e] at ih
    rw [← ih]
    simp [grS]
theorem shr_nat (n i : Nat) (h : i ≤ 60) : shr .i64 (n : Int) (i : Int) = ((n / 2 ^ i : Nat) : Int) := by
  have hm : min ((i : Int).toNat) IntKind.i64.bits = i := by
    rw [Int.toNat_natCast]; exact Nat.min_eq_left (Nat.le_trans h (by decide))
  have hs : shr .i64 (n : Int) (i : Int) = (n : Int) / 2 ^ min ((i : Int).toNat) IntKind.i64.bits := rfl
  rw [hs, hm, Int.natCast_ediv, Int.natCast_pow]; rfl
theorem and_one (n : Nat) (h : n < 4611686018427387904) : Go.bits .and .i64 (n : Int) 1 = ((n % 2 : Nat) : Int) := by
  have ha' : n % 2 ^ IntKind.i64.bits = n := Nat.mod_eq_of_lt (Nat.lt_of_lt_of_le h (by decide))
  have e1 : (1 : Int) = ((1 : Nat) : Int) := rfl
  rw [e1]
  simp only [Go.bits, BitVec.ofInt_natCast, BitVec.toNat_and, BitVec.toNat_ofNat, ha']
  have e2 : n &&& (1 % 2 ^ IntKind.i64.bits) = n % 2 := by
    rw [show 1 % 2 ^ IntKind.i64.bits = 1 by decide, Nat.and_one_is_mod]
  rw [e2, i64_w, w64 (by omega) (by omega)]
theorem gray_bit (n i : Nat) : (n ^^^ n / 2) / 2 ^ i % 2 = (n / 2 ^ i + n / 2 ^ i / 2) % 2 := by
  have e : n / 2 / 2 ^ i = n / 2 ^ i / 2 := by rw [Nat.div_div_eq_div_mul, Nat.div_div_eq_div_mul, Nat.mul_comm]
  rw [Nat.xor_div_two_pow, e]
  generalize n / 2 ^ i = y
  have q := @Nat.xor_mod_two_eq_one y (y / 2)
  generalize (y ^^^ y / 2) = x at q ⊢
  by_cases c1 : y % 2 = 1
  · by_cases c2 : y / 2 % 2 = 1
    · have : ¬ x % 2 = 1 := fun h => q.1 h ⟨fun _ => c2, fun _ => c1⟩
      omega
    · have : x % 2 = 1 := q.2 (fun h => c2 (h.1 c1))
      omega
  · by_cases c2 : y / 2 % 2 = 1
    · have : x % 2 = 1 := q.2 (fun h => c1 (h.2 c2))
      omega
    · have : ¬ x % 2 = 1 := fun h => q.1 h ⟨fun h => absurd h c1, fun h => absurd h c2⟩
      omega
theorem state_l0 (L n : Nat) (hL : L ≤ 20) (hn : n < 1048576) : ∀ (d i : Nat) (x : List Int), i + d = L → x.length = L → (∀ j : Nat, j < i → rd x (j : Int) = ((bitB n j).toNat : Int)) →
    Ev (fun k => impl_state.l0 k ((n ^^^ n / 2 : Nat) : Int) x (L : Int) (i : Int)) (stB L n) := by
  have hx : n ^^^ n / 2 < 2 ^ 20 := Nat.xor_lt_two_pow (by simpa using hn) (by have : (2 : Nat) ^ 20 = 1048576 := by decide
                                                                               omega)
  have e20 : (2 : Nat) ^ 20 = 1048576 := by decide
  intro d
  induction d with
  | zero =>
    intro i x hi hxl h
    obtain rfl : i = L := by omega
    have : strOfNums x = stB i n := by
      apply ByteArray.ext
      apply Array.toList_inj.1
      show (x.map fun n => UInt8.ofNat n.toNat) = grS i n
      apply List.ext_getElem (by rw [List.length_map, hxl, grS_length])
      intro j h1 h2
      have hj : j < x.length := by simpa using h1
      have e : x[j] = rd x (j : Int) := by simp [rd, hj]
      rw [List.getElem_map, grS_at i n j h2, e, h j (by omega), Int.toNat_natCast]
      simp
    exact Ev.last fun k => by rw [impl_state.l0, if_neg (by omega), this]
  | succ d ih =>
    intro i x hi hxl h
    have hdl := Nat.div_le_self (n ^^^ n / 2) (2 ^ i)
    refine Ev.next ⟨0, fun k _ => ?_⟩ (ih (i + 1) (x.set i ((bitB n i).toNat : Int)) (by omega) (by rw [List.length_set]; exact hxl) (fun j hj => by
      rw [srd _ _ _ _ (by omega)]
      by_cases c : j = i
      · subst c; rw [if_pos rfl]
      · rw [if_neg c]; exact h j (by omega)))
    have hb : (48 + (((((n ^^^ n / 2) / 2 ^ i % 2 : Nat)) : Int) % 256)) % 256 = ((bitB n i).toNat : Int) := by
      rw [gray_bit]
      unfold bitB
      by_cases c : (n / 2 ^ i + n / 2 ^ i / 2) % 2 = 1
      · rw [if_pos c, c]; rfl
      · rw [if_neg c, show (n / 2 ^ i + n / 2 ^ i / 2) % 2 = 0 by omega]; rfl
    rw [impl_state.l0, if_pos (by omega), if_pos (by omega), if_pos (by omega), shr_nat _ _ (by omega), and_one _ (by omega), hb, Int.toNat_natCast, w64 (by omega) (by omega)]
    rfl
theorem state_ev (L n : Nat) (hL : L ≤ 20) (hn : n < 2 ^ L) : Ev (fun k => impl_state.f k (L : Int) (n : Int)) (stB L n) := by
  have hp := pow20 hL
  obtain ⟨K, hK⟩ := state_l0 L n hL (by omega) L 0 (List.replicate L 0) (by omega) (by simp) (fun j hj => by omega)
  refine ⟨K, fun k hk => ?_⟩
  have hK := hK k hk
  have et : Int.tdiv (n : Int) 2 = ((n / 2 : Nat) : Int) := rfl
  unfold impl_state.f
  dsimp only
  rw [if_pos (by omega), if_pos (by omega), Option.bind_some, et, w64 (a := ((n / 2 : Nat) : Int)) (by omega) (by omega), xor_i64 n (n / 2) (by omega) (by omega), List.length_replicate, Int.toNat_natCast]
  exact hK

/-! ### after spec_riState -/
/-! ### after impl_movesOf -/
theorem canL_at : ∀ (l : List UInt8) (j : Nat), l.all isBit = true → canL l (j + 1) = decide (j + 1 < l.length ∧ l.getD j 0 = 49 ∧ (l.take j).count 49 = 0)
  | [], j, _ => by simp [canL]
  | b :: t, 0, h => by
    cases t with
    | nil => simp [canL]
    | cons c t =>
      simp only [canL, List.isEmpty_cons, Bool.not_false, Bool.and_true]
      rw [Bool.eq_iff_iff]
      simp
  | b :: t, j + 1, h => by
    rw [List.all_cons, Bool.and_eq_true] at h
    have ih := canL_at t j h.2
    show (b == 48 && canL t (j + 1)) = _
    rw [ih]
    rcases bit_cases h.1 with rfl | rfl
    · simp
    · simp
theorem canB_L (s : ByteArray) (hb : s.data.toList.all isBit = true) (i : Nat) (hi : i < s.size) : canB s (i : Int) = canL s.data.toList i := by
  have hz := Lib.size_eq s
  cases i with
  | zero =>
    have e : canL s.data.toList 0 = true := by cases s.data.toList <;> rfl
    rw [e]; simp [canB]
  | succ j =>
    rw [canL_at _ _ hb]
    have hj : j < s.data.toList.length := by omega
    have e1 : ((j + 1 : Nat) : Int) - 1 = (j : Int) := by omega
    have eb := bt_nat s j hj
    have eg : s.data.toList.getD j 0 = s.data.toList[j] := by simp [List.getD, List.getElem?_eq_getElem hj]
    have q : ((s.data.toList[j].toNat : Int) = 49) = (s.data.toList[j] = 49) := byte_toInt _ 49 (by omega)
    unfold canB
    rw [e1, eb, eg, Int.toNat_natCast, inB_of (by omega) (by omega), decide_eq_false (show ¬ ((j + 1 : Nat) : Int) = 0 by omega)]
    simp only [q, Bool.false_or, Bool.true_and]
    have hlt : j + 1 < s.data.toList.length := by omega
    rw [Bool.eq_iff_iff]
    simp [hlt]
    intro _ _
    omega
def movesI (s : ByteArray) : List Int := (movesL s.data.toList).map fun i : Nat => (i : Int)
theorem moves_l0 (s : ByteArray) (hs : s.size ≤ 20) (hb : s.data.toList.all isBit = true) : ∀ (d i : Nat), i + d = s.size →
    Ev (fun k => impl_movesOf.l0 k s (((List.range i).filter (canL s.data.toList)).map fun j : Nat => (j : Int)) (s.size : Int) (i : Int)) (movesI s) := by
  have hz := Lib.size_eq s
  intro d
  induction d with
  | zero =>
    intro i hi
    obtain rfl : i = s.size := by omega
    refine Ev.last fun k => ?_
    rw [impl_movesOf.l0, if_neg (by omega)]
    unfold movesI movesL
    rw [hz]
  | succ d ih =>
    intro i hi
    have hlen : (((List.range i).filter (canL s.data.toList)).map fun j : Nat => (j : Int)).length ≤ i := by
      rw [List.length_map]; exact Nat.le_trans (List.length_filter_le _ _) (by simp)
    refine Ev.next ⟨0, fun k _ => ?_⟩ (ih (i + 1) (by omega))
    rw [impl_movesOf.l0, if_pos (by omega), canMove_eq s _ (by omega) hb, Option.bind_some, canB_L s hb i (by omega), List.range_succ, List.filter_append, List.map_append, w64 (by omega) (by omega)]
    cases hc : canL s.data.toList i
    · rw [if_neg (by simp)]
      simp [hc]
    · rw [if_pos rfl, if_pos (by omega)]
      simp [hc]
theorem movesOf_ev {s : ByteArray} (h : stateB s = true) : Ev (fun k => impl_movesOf.f k s) (movesI s) := by
  obtain ⟨h1, h2, h3, h4⟩ := state_facts h
  exact moves_l0 s h2 h3 s.size 0 (by omega)

/-! ### after impl_MovesOf -/
def movesR (s : ByteArray) : List Int × Bool := if stateB s = true then (movesI s, true) else ([], false)
theorem implMoves_ev (s : ByteArray) (hs : s.size ≤ 1048576) : Ev (fun k => impl_MovesOf.f k s) (movesR s) := by
  unfold movesR
  by_cases c : stateB s = true
  · obtain ⟨K, hK⟩ := movesOf_ev c
    refine ⟨K, fun k hk => ?_⟩
    have hK := hK k hk
    simp only at hK
    simp [impl_MovesOf.f, isState_eq s (by omega), c, hK]
  · exact ⟨0, fun k _ => by simp [impl_MovesOf.f, isState_eq s (by omega), c]⟩

/-! ### after impl_state -/
/-! ### after impl_NumberOfState -/
/-! ### after laws_xHas -/
theorem xHas_ev (l : List Int) (a : Int) (hl : l.length ≤ 9223372036854775806) : Ev (fun k => laws_xHas.f k l a) (decide (a ∈ l)) := by
  have key : ∀ (d i : Nat), i + d = l.length → Ev (fun k => laws_xHas.l0 k a l (l.length : Int) (i : Int)) (decide (a ∈ l.drop i)) := by
    intro d
    induction d with
    | zero =>
      intro i hi
      rw [List.drop_of_length_le (by omega)]
      exact Ev.last fun k => by rw [laws_xHas.l0, if_neg (by omega)]; rfl
    | succ d ih =>
      intro i hi
      have hlt : i < l.length := by omega
      have er : rd l (i : Int) = l[i] := by simp [rd, hlt]
      rw [List.drop_eq_getElem_cons hlt]
      by_cases c : l[i] = a
      · have e : decide (a ∈ l[i] :: l.drop (i + 1)) = true := decide_eq_true (by rw [c]; exact List.mem_cons_self)
        rw [e]
        exact Ev.last fun k => by rw [laws_xHas.l0, if_pos (by omega), if_pos (by omega), if_pos (by omega), er, if_pos c]
      · have e : decide (a ∈ l[i] :: l.drop (i + 1)) = decide (a ∈ l.drop (i + 1)) := by
          rw [decide_eq_decide, List.mem_cons]
          exact ⟨fun h => h.resolve_left (fun h' => c h'.symm), .inr⟩
        rw [e]
        refine Ev.next ⟨0, fun k _ => ?_⟩ (ih (i + 1) (by omega))
        rw [laws_xHas.l0, if_pos (by omega), if_pos (by omega), if_pos (by omega), er, if_neg c, w64 (by omega) (by omega)]
        rfl
  have := key l.length 0 (by omega)
  rwa [List.drop_zero] at this

/-! ### after laws_xPuzzle -/
theorem xPuzzle_ev (r : Int) (l : List S59) (hl : l.length ≤ 9223372036854775806) : Ev (fun k => laws_xPuzzle.f k r l r l) true := by
  have key : ∀ (d i : Nat), i + d = l.length → Ev (fun k => laws_xPuzzle.l0 k (l.length : Int) (i : Int) r l r l) true := by
    intro d
    induction d with
    | zero => intro i hi; exact Ev.last fun k => by rw [laws_xPuzzle.l0, if_neg (by omega)]
    | succ d ih =>
      intro i hi
      refine Ev.next ⟨0, fun k _ => ?_⟩ (ih (i + 1) (by omega))
      rw [laws_xPuzzle.l0, if_pos (by omega), if_pos (by omega), if_pos (by omega), if_pos (by omega), if_neg (by simp), w64 (by omega) (by omega)]
      rfl
  refine Ev.next ⟨0, fun k _ => ?_⟩ (key l.length 0 (by omega))
  simp only [laws_xPuzzle.f, if_true, laws_xPuzzle.j0, bne_self_eq_false, Bool.false_eq_true, if_false]
  rfl

/-! ### after impl_MakePuzzle -/
/-- Does a state fit a clue, if both are such? -/
def doesR (k a b : Int) (s : ByteArray) : Bool × Bool := if (hiddenB s && clueB s.size k a b) = true then (fitsB k a b s, true) else (false, false)
theorem implDoes_ev (k a b : Int) (s : ByteArray) (hs : s.size ≤ 1048576) : Ev (fun n => impl_DoesFit.f n k a b s) (doesR k a b s) := by
  have h2 := isHidden_eq s (by omega)
  unfold doesR
  cases hh : hiddenB s
  · rw [hh] at h2
    exact ⟨0, fun n _ => by simp [impl_DoesFit.f, h2]⟩
  · rw [hh] at h2
    obtain ⟨hst, h1, h7⟩ := hidden_facts hh
    have hr : inB (s.size : Int) 1 7 = true := inB_of (by omega) (by omega)
    cases hc : clueB s.size k a b
    · refine ⟨1, fun n hn => ?_⟩
      obtain ⟨n, rfl⟩ : ∃ z, n = z + 1 := ⟨n - 1, by omega⟩
      have e2 := implClueA_eq n s.size k a b
      simp [impl_DoesFit.f, h2, e2, isClueB, hr, hc]
    · obtain ⟨_, f2⟩ := fits_12 k a b s h7 hst hc
      refine ⟨13, fun n hn => ?_⟩
      obtain ⟨n, rfl⟩ : ∃ z, n = z + 1 := ⟨n - 1, by omega⟩
      have e2 := implClueA_eq n s.size k a b
      simp [impl_DoesFit.f, h2, e2, isClueB, hr, hc, f2 (n + 1) (by omega)]

/-! ### after impl_MakePuzzle -/
theorem specDoes_ev (k a b : Int) (s : ByteArray) : Ev (fun n => spec_DoesFit.f n k a b s) (doesR k a b s) := by
  obtain ⟨K1, g1⟩ := pzHidden_ev s
  unfold doesR
  cases hh : hiddenB s
  · rw [hh] at g1
    exact ⟨K1, fun n hn => by have g1 := g1 n hn; simp only at g1; simp [spec_DoesFit.f, g1]⟩
  · rw [hh] at g1
    obtain ⟨hst, h1, h7⟩ := hidden_facts hh
    have hr : inB (s.size : Int) 1 7 = true := inB_of (by omega) (by omega)
    cases hc : clueB s.size k a b
    · refine ⟨K1 + 1, fun n hn => ?_⟩
      obtain ⟨n, rfl⟩ : ∃ z, n = z + 1 := ⟨n - 1, by omega⟩
      have g1 := g1 (n + 1) (by omega)
      simp only at g1
      have e2 := pzClueA_eq n s.size k a b (by omega)
      simp [spec_DoesFit.f, g1, e2, hc]
    · obtain ⟨⟨K2, f2⟩, _⟩ := fits_12 k a b s h7 hst hc
      refine ⟨K1 + K2 + 1, fun n hn => ?_⟩
      obtain ⟨n, rfl⟩ : ∃ z, n = z + 1 := ⟨n - 1, by omega⟩
      have g1 := g1 (n + 1) (by omega)
      have f2 := f2 (n + 1) (by omega)
      simp only at g1 f2
      have e2 := pzClueA_eq n s.size k a b (by omega)
      simp [spec_DoesFit.f, g1, e2, hc, f2]

/-! ### after impl_IsClue -/
theorem specIsClue_ev (r k a b : Int) : Ev (fun n => spec_IsClue.f n r k a b) (isClueB r k a b) := by
  refine ⟨1, fun n hn => ?_⟩
  obtain ⟨n, rfl⟩ : ∃ z, n = z + 1 := ⟨n - 1, by omega⟩
  dsimp only
  simp only [spec_IsClue.f, spec_pzRings.f, spec_l1In.f, inB_ite, Option.bind_some, isClueB]
  cases h : inB r 1 7
  · simp
  · have := inB_lo h
    rw [pzClueA_eq n r k a b (by omega)]
    simp
theorem implIsClue_ev (r k a b : Int) : Ev (fun n => impl_IsClue.f n r k a b) (isClueB r k a b) := by
  refine ⟨1, fun n hn => ?_⟩
  obtain ⟨n, rfl⟩ : ∃ z, n = z + 1 := ⟨n - 1, by omega⟩
  exact implClueA_eq n r k a b

/-! ### after impl_DoesFit -/
theorem big_not {r : Int} {l : List S59} (h : ¬ l.length ≤ 6) : isPuzzleB r l = false := by
  cases c : isPuzzleB r l
  · rfl
  · exact absurd (puzzle_of c).2.2.1 h
theorem numB_grN {s : ByteArray} (h7 : s.size ≤ 7) (h : stateB s = true) : numB s = (grN s.data.toList : Int) := by
  obtain ⟨_, _, h3, _⟩ := numB_ev s h7 (stateB_bits h)
  obtain ⟨K, hK⟩ := number_ev h
  have h1 := h3 (K + 12) (by omega)
  have h2 := hK (K + 12) (by omega)
  simp only at h2
  rw [h1] at h2
  exact Option.some.inj h2
theorem grN_small {s : ByteArray} (h7 : s.size ≤ 7) (h : stateB s = true) : grN s.data.toList < 2 ^ s.size ∧ grN s.data.toList < 128 := by
  have h1 := grN_lt s.data.toList
  have h2 := (state_facts h).2.2.2
  rw [h2] at h1
  have := two7 h7
  exact ⟨h1, by omega⟩
theorem valB_rng {s : ByteArray} {k a : Int} (h7 : s.size ≤ 7) (hst : stateB s = true) (ha : okArg s.size k a) (h0 : 0 ≤ k) (h4 : k ≤ 4) (h3 : k = 3 → a ≤ 127) :
    (k = 0 ∨ k = 4 → inB (valB k a s) 0 1 = true) ∧ (k = 2 → inB (valB k a s) 0 (a - 1) = true) ∧ (k = 3 → inB (valB k a s) 0 127 = true) := by
  have hb := stateB_bits hst
  obtain ⟨n0, n1, _, _⟩ := numB_ev s h7 hb
  refine ⟨?_, ?_, ?_⟩
  · rintro (rfl | rfl)
    · unfold okArg at ha
      rw [if_pos (by simp)] at ha
      have hz : s.size = s.data.toList.length := Lib.size_eq s
      obtain ⟨i, rfl⟩ : ∃ i : Nat, a = i := ⟨a.toNat, by omega⟩
      have hi : i < s.data.toList.length := by omega
      have hbi := List.all_eq_true.1 hb _ (List.getElem_mem hi)
      unfold valB
      rw [if_pos rfl, bt_nat s i hi]
      rcases bit_cases hbi with e | e <;> rw [e] <;> decide
    · unfold valB
      rw [if_neg (by decide), if_neg (by decide), if_neg (by decide), if_neg (by decide)]
      cases canB s a <;> decide
  · rintro rfl
    unfold okArg at ha
    rw [if_neg (by decide), if_pos rfl] at ha
    unfold valB
    rw [if_neg (by decide), if_neg (by decide), if_pos rfl]
    have e1 := Int.tmod_lt_of_pos (numB s) (show 0 < a by omega)
    have e2 := Int.tmod_nonneg a n0
    exact inB_of e2 (by omega)
  · rintro rfl
    unfold okArg at ha
    rw [if_neg (by decide), if_neg (by decide), if_pos rfl] at ha
    unfold valB
    rw [if_neg (by decide), if_neg (by decide), if_neg (by decide), if_pos rfl]
    refine inB_of ?_ ?_ <;> split <;> omega
theorem onN_le (s : ByteArray) : onN s ≤ s.size := by
  unfold onN
  rw [Lib.size_eq s]
  exact List.count_le_length
set_option maxRecDepth 100000 in
/-- A clue that is made is one, and its state fits it. -/
theorem clueM_ok {s : ByteArray} (h : hiddenB s = true) (z : Nat) : clueB s.size (clueM s z).f0 (clueM s z).f1 (clueM s z).f2 = true ∧ fitsB (clueM s z).f0 (clueM s z).f1 (clueM s z).f2 s = true := by
  obtain ⟨hst, h1, h7⟩ := hidden_facts h
  have h5 := kdN_lt z
  have hok := argN_ok s z h1 h7
  have hle := onN_le s
  have hlim : kdN z = 3 → (argN s z : Int) < ((2 ^ s.size : Nat) : Int) := by
    intro c
    unfold argN
    rw [if_neg (by omega), if_neg (by omega), if_pos c]
    have := Nat.mod_lt (nxN (nxN z)) (show 0 < 2 ^ s.size from Nat.pow_pos (by omega))
    omega
  have hp := two7 h7
  have hv := valB_rng (k := (kdN z : Nat)) (a := (argN s z : Nat)) h7 hst hok (by omega) (by omega) (fun c => by have := hlim (by omega); omega)
  have hsh : wrap64 (shl .i64 1 (s.size : Int) - 1) = ((2 ^ s.size : Nat) : Int) - 1 := by
    rw [shl7 h1 h7]
    generalize 2 ^ s.size = q at hp ⊢
    exact w64 (by omega) (by omega)
  unfold clueM
  generalize argN s z = q at hok hlim hv ⊢
  generalize kdN z = m at h5 hok hlim hv ⊢
  have hm : m = 0 ∨ m = 1 ∨ m = 2 ∨ m = 3 ∨ m = 4 := by omega
  have w1 : wrap64 ((s.size : Int) - 1) = (s.size : Int) - 1 := w64 (by omega) (by omega)
  unfold okArg at hok
  rcases hm with rfl | rfl | rfl | rfl | rfl
  · rw [if_pos (by simp)] at hok
    have h2 := hv.1 (by simp)
    refine ⟨?_, by simp [fitsB]⟩
    simp only [clueB, w1]
    rw [if_pos (by simp), if_neg (by simp), if_neg (by simp)]
    simp only [Bool.and_eq_true]
    exact ⟨inB_of (by omega) (by omega), h2⟩
  · refine ⟨?_, by simp [fitsB]⟩
    simp only [clueB]
    rw [if_neg (by simp), if_pos (by simp), if_pos (by simp), if_pos (by simp)]
    have e : valB 1 0 s = (onN s : Int) := by unfold valB; rw [if_neg (by decide), if_pos rfl]
    rw [e]
    simp only [Bool.and_eq_true]
    exact ⟨inB_of (by omega) (by omega), by simp⟩
  · rw [if_neg (by simp), if_pos (by simp)] at hok
    have h2 := hv.2.1 rfl
    refine ⟨?_, by simp [fitsB]⟩
    simp only [clueB]
    rw [if_neg (by simp), if_neg (by simp), if_pos (by simp), if_neg (by simp), if_neg (by simp), w64 (by omega) (by omega)]
    simp only [Bool.and_eq_true]
    exact ⟨inB_of (by omega) (by omega), h2⟩
  · rw [if_neg (by simp), if_neg (by simp), if_pos (by simp)] at hok
    have h2 := hv.2.2 rfl
    have h3 := hlim rfl
    refine ⟨?_, by simp [fitsB]⟩
    simp only [clueB, hsh]
    rw [if_neg (by simp), if_neg (by simp), if_neg (by simp), if_pos (by simp), if_neg (by simp), if_neg (by simp)]
    simp only [Bool.and_eq_true]
    exact ⟨inB_of (by omega) (by omega), h2⟩
  · rw [if_pos (by simp)] at hok
    have h2 := hv.1 (by simp)
    refine ⟨?_, by simp [fitsB]⟩
    simp only [clueB, w1]
    rw [if_pos (by simp), if_neg (by simp), if_neg (by simp)]
    simp only [Bool.and_eq_true]
    exact ⟨inB_of (by omega) (by omega), h2⟩
set_option maxRecDepth 100000 in
theorem makeL_all (s : ByteArray) (P : S59 → Prop) (hP : ∀ z, P (clueM s z)) : ∀ (n z : Nat) (acc : List S59), (∀ x ∈ acc, P x) → ∀ x ∈ makeL s n z acc, P x
  | 0, _, _, h => h
  | n + 1, z, acc, h => by
    rw [makeL]
    refine makeL_all s P hP n _ _ fun x hx => ?_
    rcases List.mem_append.1 hx with hx | hx
    · exact h x hx
    · rw [List.mem_singleton] at hx; rw [hx]; exact hP z
theorem puzzle_mk {r : Int} {l : List S59} (h1 : 1 ≤ r) (h7 : r ≤ 7) (hl : l.length ≤ 6) (h : ∀ x ∈ l, clueB r x.f0 x.f1 x.f2 = true) : isPuzzleB r l = true := by
  unfold isPuzzleB
  simp only [Bool.and_eq_true, decide_eq_true_eq, Bool.not_eq_true', List.any_eq_false]
  refine ⟨⟨inB_of h1 h7, hl⟩, fun x hx => ?_⟩
  simp [isClueB, inB_of h1 h7, h x hx]
set_option maxRecDepth 100000 in
theorem made_ok {s : ByteArray} (h : hiddenB s = true) (n z : Nat) (hn : n ≤ 6) : isPuzzleB s.size (makeL s n z []) = true ∧ (∀ x ∈ makeL s n z [], fitsB x.f0 x.f1 x.f2 s = true) := by
  obtain ⟨hst, h1, h7⟩ := hidden_facts h
  refine ⟨puzzle_mk (by omega) (by omega) (by rw [makeL_length]; simp; omega) (makeL_all s (fun x => clueB s.size x.f0 x.f1 x.f2 = true) (fun z => (clueM_ok h z).1) n z [] (by simp)), makeL_all s (fun x => fitsB x.f0 x.f1 x.f2 s = true) (fun z => (clueM_ok h z).2) n z [] (by simp)⟩

/-! ### after impl_fitting -/
theorem stS_eq {r n : Nat} (h1 : 1 ≤ r) (h7 : r ≤ 7) (hn : n < 2 ^ r) : stS r n = stB r n := by
  obtain ⟨h, _⟩ := st_of r n h1 h7 hn
  obtain ⟨K, hK⟩ := state_ev r n (by omega) hn
  have h1 := h (K + 40) (by omega)
  have h2 := hK (K + 40) (by omega)
  simp only at h2
  rw [h1] at h2
  exact Option.some.inj h2
theorem stB_self {s : ByteArray} (h : stateB s = true) : stB s.size (grN s.data.toList) = s := by
  obtain ⟨_, _, h3, h4⟩ := state_facts h
  unfold stB
  rw [← h4, grS_grN _ h3]
theorem solB_self {s : ByteArray} (h : hiddenB s = true) (l : List S59) (hl : ∀ x ∈ l, fitsB x.f0 x.f1 x.f2 s = true) : s ∈ solB s.size l := by
  obtain ⟨hst, h1, h7⟩ := hidden_facts h
  obtain ⟨g1, _⟩ := grN_small h7 hst
  have e : stS s.size (grN s.data.toList) = s := by
    have := stS_eq h1 h7 g1
    rw [this, stB_self hst]
  unfold solB
  refine List.mem_map.2 ⟨grN s.data.toList, List.mem_filter.2 ⟨List.mem_range.2 (by rw [Int.toNat_natCast]; exact g1), ?_⟩, e⟩
  unfold fitP
  rw [e]
  exact List.all_eq_true.2 hl
theorem solB_sub (r : Int) {l l' : List S59} (h : ∀ x ∈ l', x ∈ l) : (solB r l).Sublist (solB r l') := by
  unfold solB
  refine List.Sublist.map _ ?_
  have e : (List.range (2 ^ r.toNat)).filter (fitP r l) = ((List.range (2 ^ r.toNat)).filter (fitP r l')).filter (fitP r l) := by
    rw [List.filter_filter]
    refine List.filter_congr fun n _ => ?_
    unfold fitP
    cases c : l.all fun x => fitsB x.f0 x.f1 x.f2 (stS r n)
    · simp
    · have : (l'.all fun x => fitsB x.f0 x.f1 x.f2 (stS r n)) = true := List.all_eq_true.2 fun x hx => List.all_eq_true.1 c x (h x hx)
      rw [this]; rfl
  rw [e]
  exact List.filter_sublist
theorem erase_two {α : Type} : ∀ (l : List α) (i j : Nat), j < i → ∀ x ∈ (l.eraseIdx i).eraseIdx j, x ∈ l.eraseIdx j
  | [], _, _, _, x, h => by simp at h
  | a :: t, 0, j, hj, _, _ => absurd hj (by omega)
  | a :: t, i + 1, 0, _, x, h => by
    simp only [List.eraseIdx_cons_succ, List.eraseIdx_cons_zero] at h ⊢
    exact List.mem_of_mem_eraseIdx h
  | a :: t, i + 1, j + 1, hj, x, h => by
    simp only [List.eraseIdx_cons_succ, List.mem_cons] at h ⊢
    rcases h with h | h
    · exact .inl h
    · exact .inr (erase_two t i j (by omega) x h)

/-! ### after impl_DoesFit -/
theorem hard_facts (r : Int) : ∀ (m : Nat) (l : List S59) (i : Nat), isPuzzleB r l = true → i + m = l.length → (solB r l).length = 1 → (∀ j, j < i → (solB r (l.eraseIdx j)).length ≠ 1) →
    isPuzzleB r (hardL r m l i) = true ∧ solB r (hardL r m l i) = solB r l ∧ ∀ j, j < (hardL r m l i).length → (solB r ((hardL r m l i).eraseIdx j)).length ≠ 1
  | 0, l, i, h, hi, h1, hn => ⟨h, rfl, fun j hj => hn j (by unfold hardL at hj; omega)⟩
  | m + 1, l, i, h, hi, h1, hn => by
    unfold hardL
    by_cases c : (solB r (l.eraseIdx i)).length = 1
    · rw [if_pos c]
      have es : solB r l = solB r (l.eraseIdx i) := (solB_sub r (fun x hx => List.mem_of_mem_eraseIdx hx)).eq_of_length (by omega)
      have hlen : (l.eraseIdx i).length = l.length - 1 := by rw [List.length_eraseIdx, if_pos (by omega)]
      rw [es]
      refine hard_facts r m (l.eraseIdx i) i (puzzle_erase h i) (by omega) c fun j hj => ?_
      have s1 := (solB_sub r (l := l.eraseIdx j) (l' := (l.eraseIdx i).eraseIdx j) (erase_two l i j hj)).length_le
      have s2 := (solB_sub r (l := l) (l' := l.eraseIdx j) (fun x hx => List.mem_of_mem_eraseIdx hx)).length_le
      have := hn j hj
      omega
    · rw [if_neg c]
      refine hard_facts r m l (i + 1) h (by omega) h1 fun j hj => ?_
      by_cases cj : j = i
      · rw [cj]; exact c
      · exact hn j (by omega)
theorem need_hard {r : Int} {l : List S59} (h : isPuzzleB r l = true) (h1 : (solB r l).length = 1) : needR r (hardL r l.length l 0) = ([], true) := by
  obtain ⟨a, b, c⟩ := hard_facts r l.length l 0 h (by omega) h1 (fun j hj => absurd hj (by omega))
  unfold needR
  rw [if_pos a]
  congr 1
  rw [List.filter_eq_nil_iff.2]
  · rfl
  · intro i hi
    rw [List.mem_range'] at hi
    obtain ⟨q, hq, rfl⟩ := hi
    have := c (0 + 1 * q) (by omega)
    unfold needP
    rw [b, h1]
    simpa using this

/-! ### after impl_DoesFit -/
theorem specHard_all (r : Int) (l : List S59) (hl : l.length ≤ 9223372036854775807) : Ev (fun k => spec_HarderPuzzle.f k r l) (hardR r l) := by
  by_cases c : l.length ≤ 1048576
  · exact specHard_ev r l c
  · have hb : isPuzzleB r l = false := big_not (by omega)
    obtain ⟨K1, h1⟩ := pzGood_ev r l hl
    unfold hardR
    rw [hb] at h1 ⊢
    refine ⟨K1 + 1, fun k hk => ?_⟩
    obtain ⟨k, rfl⟩ : ∃ j, k = j + 1 := ⟨k - 1, by omega⟩
    have h1 := h1 (k + 1) (by omega)
    simp only at h1
    simp [spec_HarderPuzzle.f, h1, spec_HarderPuzzle.j0]

/-! ### after impl_MakePuzzle -/
def dropR (r : Int) (l : List S59) (a : Int) : Int × List S59 × Bool := if (isPuzzleB r l && inB a 0 (wrap64 (l.length - 1))) = true then (r, l.eraseIdx a.toNat, true) else (0, [], false)
theorem implDrop_all (r : Int) (l : List S59) (a : Int) : impl_DropClue.f r l a = some (dropR r l a) := by
  by_cases c : l.length ≤ 1048576
  · exact implDropClue_eq r l a c
  · have hb : isPuzzleB r l = false := big_not (by omega)
    simp [impl_DropClue.f, impl_IsPuzzle.f, dropR, hb]
theorem specDrop_all (r : Int) (l : List S59) (a : Int) (hl : l.length ≤ 9223372036854775807) : Ev (fun k => spec_DropClue.f k r l a) (dropR r l a) := by
  by_cases c : l.length ≤ 1048576
  · exact specDropClue_ev r l a c
  · have hb : isPuzzleB r l = false := big_not (by omega)
    obtain ⟨K1, h1⟩ := pzGood_ev r l hl
    rw [hb] at h1
    refine ⟨K1, fun k hk => ?_⟩
    have h1 := h1 k hk
    simp only at h1
    simp [spec_DropClue.f, h1, dropR, hb]

/-! ### after impl_MakePuzzle -/
def addR (r : Int) (l : List S59) (a b c : Int) : Int × List S59 × Bool := if (isPuzzleB r l && isClueB r a b c && decide (l.length < 6)) = true then (r, l ++ [⟨a, b, c⟩], true) else (0, [], false)
theorem implAdd_all (r : Int) (l : List S59) (a b c : Int) : Ev (fun k => impl_AddClue.f k r l a b c) (addR r l a b c) := by
  by_cases h : l.length ≤ 1048576
  · exact implAddClue_ev r l a b c h
  · have hb : isPuzzleB r l = false := big_not (by omega)
    exact ⟨0, fun k _ => by simp [impl_AddClue.f, impl_IsPuzzle.f, addR, hb]⟩
theorem specAdd_all (r : Int) (l : List S59) (a b c : Int) (hl : l.length ≤ 9223372036854775807) : Ev (fun k => spec_AddClue.f k r l a b c) (addR r l a b c) := by
  by_cases h : l.length ≤ 1048576
  · exact specAddClue_ev r l a b c h
  · have hb : isPuzzleB r l = false := big_not (by omega)
    obtain ⟨K1, h1⟩ := pzGood_ev r l hl
    rw [hb] at h1
    refine ⟨K1, fun k hk => ?_⟩
    have h1 := h1 k hk
    simp only at h1
    simp [spec_AddClue.f, h1, addR, hb]

end Go.Proofs.YtcogjabdddikjaaDoor.PHidAll
