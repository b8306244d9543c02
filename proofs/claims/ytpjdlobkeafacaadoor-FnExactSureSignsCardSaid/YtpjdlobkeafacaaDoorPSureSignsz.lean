/- What the printed functions answer, function by function: plain statements, without memory. (wip/after) -/
import Derived.Test.YtpjdlobkeafacaaDoorPSureSignsx
import Derived.Test.YtpjdlobkeafacaaDoorEv
import Derived.Test.YtpjdlobkeafacaaDoorState
namespace Go.Proofs.YtpjdlobkeafacaaDoor.PSureSigns
open Go.RowKit Go.Proofs.YtpjdlobkeafacaaDoorW.PrintWords Go.Proofs.YtpjdlobkeafacaaDoorW.PrintLast Go.Proofs.YtpjdlobkeafacaaDoorW.PrintMore
set_option linter.unusedVariables false
set_option linter.unusedSimpArgs false
/-! ### after laws_szClueS -/
theorem laws_szClueS.eq (l : List S104) (a : Int) (h0 : 0 ≤ a) (h1 : a ≤ 1048576) (hl : l.length ≤ 9223372036854775807) : laws_szClueS.f l a = some (if a < l.length then -1 else a - l.length) := by
  unfold laws_szClueS.f
  rw [w64 (by omega) (by omega)]
  by_cases h : a < l.length
  · rw [if_pos (by omega), if_pos h]
  · rw [if_neg (by omega), if_neg h]


/-! ### after laws_toClueS -/
theorem laws_toClueS.ev (l : List S104) (hl : l.length ≤ 1048576) : Ev (fun k => laws_toClueS.f k l) (l.map (fun x : S104 => (⟨x.f0, x.f1, x.f2⟩ : S95))) := by
  have h1 : 0 ≤ (l.length : Int) := by omega
  have h2 : (l.length : Int).toNat ≤ 11728124029610 := by omega
  unfold laws_toClueS.f
  simp only [if_pos h1, if_pos h2]
  refine to_ev laws_toClueS.l0 (fun x : S104 => (⟨x.f0, x.f1, x.f2⟩ : S95)) ?_ ?_ l _ (by simp) (by omega)
  · intro l acc i h hc hl
    refine ⟨0, fun k _ => ?_⟩
    have e : rd_T104 l (i : Int) = l[i] := by simp [rd_T104, h]
    have ew : wrap64 ((i : Int) + 1) = ((i + 1 : Nat) : Int) := by rw [w64 (by omega) (by omega)]; omega
    rw [laws_toClueS.l0, if_pos (by omega), if_pos (by omega)]
    simp only [laws_toClue.f, Option.bind_some, e, ew, Int.toNat_natCast]
    rw [if_pos (by omega)]
  · intro k l acc
    rw [laws_toClueS.l0, if_neg (by omega)]


/-! ### after laws_eqClueS -/
theorem laws_eqClueS.ev (l : List S95) (hl : l.length ≤ 9223372036854775807) : Ev (fun k => laws_eqClueS.f k l l) true := by
  unfold laws_eqClueS.f
  refine Ev.congr (f := fun k => laws_eqClueS.l0 k l l 0) (fun k => if_pos rfl) ?_
  refine eq_ev laws_eqClueS.l0 ?_ ?_ l hl
  · intro l i h hl
    refine ⟨0, fun k _ => ?_⟩
    have ew : wrap64 ((i : Int) + 1) = ((i + 1 : Nat) : Int) := by rw [w64 (by omega) (by omega)]; omega
    rw [laws_eqClueS.l0, if_pos (by omega), if_pos (by omega), if_pos (by omega)]
    simp [laws_eqClue.f, ew]
  · intro k l
    rw [laws_eqClueS.l0, if_neg (by omega)]


/-! ### after spec_pzGood -/
theorem pzGood_ev (r : Int) (l : List S95) (hl : l.length ≤ 9223372036854775807) : Ev (fun k => spec_pzGood.f k r l) (isPuzzleB r l) := by
  have hj : ∀ b : Bool, 0 ≤ r → Ev (fun k => spec_pzGood.j0 k b r l) (if b = true then false else !(l.any fun x => !clueB r x.f0 x.f1 x.f2)) := by
    intro b hr
    cases b
    · refine Ev.next (f := fun k => spec_pzGood.l0 k l (l.length : Int) 0 r l) ⟨0, fun k _ => by rw [spec_pzGood.j0]; simp⟩ ?_
      have := any_ev (fun k i => spec_pzGood.l0 k l (l.length : Int) i r l) l (fun x => !clueB r x.f0 x.f1 x.f2) false true (fun i h => ⟨1, fun k hk => by
        obtain ⟨k, rfl⟩ : ∃ m, k = m + 1 := ⟨k - 1, by omega⟩
        have e : rd_T95 l (i : Int) = l[i] := by simp [rd_T95, h]
        have ew : wrap64 ((i : Int) + 1) = ((i + 1 : Nat) : Int) := by rw [w64 (by omega) (by omega)]; omega
        rw [spec_pzGood.l0, if_pos (by omega), if_pos (by omega), if_pos (by omega), pzClue_eq _ _ _ _ _ hr, e, ew]
        simp only [Option.bind_some]
        cases clueB r l[i].f0 l[i].f1 l[i].f2 <;> simp⟩) (fun k => by rw [spec_pzGood.l0, if_neg (by omega)])
      cases h : l.any fun x => !clueB r x.f0 x.f1 x.f2 <;> simpa [h] using this
    · refine Ev.last fun k => ?_
      rw [spec_pzGood.j0]; simp
  have e1 : ∀ k, spec_pzGood.f k r l = if inB r 1 7 = true then spec_pzGood.j0 k (decide ((l.length : Int) > 6)) r l else spec_pzGood.j0 k true r l := by
    intro k
    simp only [spec_pzGood.f, spec_pzRings.f, spec_l1In.f, inB_ite, Option.bind_some]
  refine Ev.congr e1 ?_
  unfold isPuzzleB
  cases h : inB r 1 7
  · simp only [Bool.false_and, Bool.false_eq_true, if_false]
    refine Ev.last fun k => ?_
    rw [spec_pzGood.j0]; simp
  · simp only [if_true]
    have hr := inB_lo h
    have := hj (decide ((l.length : Int) > 6)) (by omega)
    have hc : (l.any fun x => !isClueB r x.f0 x.f1 x.f2) = l.any fun x => !clueB r x.f0 x.f1 x.f2 := by simp [isClueB, h]
    rw [hc]
    by_cases h6 : l.length ≤ 6
    · have hd : decide ((l.length : Int) > 6) = false := decide_eq_false (by omega)
      rw [hd] at this ⊢
      simpa [h6] using this
    · have hd : decide ((l.length : Int) > 6) = true := decide_eq_true (by omega)
      rw [hd] at this ⊢
      simpa [h6] using this

/-! ### after laws_toPuzzle -/
def toClues (l : List S104) : List S95 := l.map fun x : S104 => (⟨x.f0, x.f1, x.f2⟩ : S95)
theorem toClues_length (l : List S104) : (toClues l).length = l.length := List.length_map _
theorem toPuzzle_ev (r : Int) (l : List S104) (hl : l.length ≤ 1048576) : Ev (fun k => laws_toPuzzle.f k r l) (r, toClues l) := by
  obtain ⟨K, hK⟩ := laws_toClueS.ev l hl
  exact ⟨K, fun k hk => by simp [laws_toPuzzle.f, hK k hk, toClues]⟩

/-! ### after laws_szPuzzle -/
theorem szPuzzle_eq (r : Int) (l : List S104) (hl : l.length ≤ 9223372036854775807) : laws_szPuzzle.f r l 1048576 = some (if (1048576 : Int) < l.length then (-1 : Int) else (1048576 : Int) - l.length) := by
  simp only [laws_szPuzzle.f, laws_szClueS.eq l 1048576 (by omega) (by omega) hl, Option.bind_some]
  by_cases h : (1048576 : Int) < l.length
  · simp [h]
  · simp only [h, if_false]
    rw [if_neg (by omega)]

/-! ### after laws_eqPuzzle -/
theorem eqPuzzle_ev (r : Int) (l : List S95) (hl : l.length ≤ 9223372036854775807) : Ev (fun k => laws_eqPuzzle.f k r l r l) true := by
  obtain ⟨K, hK⟩ := laws_eqClueS.ev l hl
  exact ⟨K, fun k hk => by simp [laws_eqPuzzle.f, hK k hk]⟩

/-! ### after impl_IsState -/
theorem isState_eq (s : ByteArray) (h : s.size ≤ 9223372036854775807) : impl_IsState.f s = some (stateB s) := by
  have ht : strings_Trim.f s (⟨#[48, 49]⟩ : ByteArray) = some ⟨(Lib.trimS s.data.toList [48, 49]).toArray⟩ := by
    unfold strings_Trim.f
    rw [if_pos ⟨h, by decide, by decide⟩]
  simp only [impl_IsState.f, impl_in.f, inB_ite, Option.bind_some, ht, trimS_beq, isBit_contains, stateB]
  cases inB (s.size : Int) 1 20 <;> simp

/-! ### after spec_riOn -/
theorem riOn_l0 (s : ByteArray) (hs : s.size ≤ 1048576) : ∀ (n i : Nat) (acc : Nat), i + n = s.data.toList.length → acc ≤ i →
    Ev (fun k => spec_riOn.l0 k s (acc : Int) (i : Int)) ((acc + (s.data.toList.drop i).count 49 : Nat) : Int) := by
  have hz : s.size = s.data.toList.length := Lib.size_eq s
  intro n
  induction n with
  | zero =>
    intro i acc hi ha
    refine Ev.last fun k => ?_
    rw [spec_riOn.l0, if_neg (by omega), List.drop_of_length_le (by omega)]
    simp
  | succ n ih =>
    intro i acc hi ha
    have hi' : i < s.data.toList.length := by omega
    have eb := bt_nat s i hi'
    have q9 := byte_toInt s.data.toList[i] 49 (by omega)
    simp only [Int.cast_ofNat_Int] at q9
    have ew : wrap64 ((i : Int) + 1) = ((i + 1 : Nat) : Int) := by rw [w64 (by omega) (by omega)]; omega
    have ea : wrap64 ((acc : Int) + 1) = ((acc + 1 : Nat) : Int) := by rw [w64 (by omega) (by omega)]; omega
    have hd : s.data.toList.drop i = s.data.toList[i] :: s.data.toList.drop (i + 1) := (List.getElem_cons_drop hi').symm
    by_cases c : s.data.toList[i] = 49
    · have := ih (i + 1) (acc + 1) (by omega) (by omega)
      refine Ev.next (f := fun k => spec_riOn.l0 k s ((acc + 1 : Nat) : Int) ((i + 1 : Nat) : Int)) ⟨0, fun k _ => ?_⟩ ?_
      · rw [spec_riOn.l0, if_pos (by omega), if_pos (by omega), eb, if_pos (q9.mpr c), ew, ea]
      · rw [hd, c, List.count_cons_self]
        have e : acc + 1 + List.count 49 (List.drop (i + 1) s.data.toList) = acc + (List.count 49 (List.drop (i + 1) s.data.toList) + 1) := by omega
        rw [← e]; exact this
    · have := ih (i + 1) acc (by omega) (by omega)
      refine Ev.next (f := fun k => spec_riOn.l0 k s (acc : Int) ((i + 1 : Nat) : Int)) ⟨0, fun k _ => ?_⟩ ?_
      · rw [spec_riOn.l0, if_pos (by omega), if_pos (by omega), eb, if_neg (fun x => c (q9.mp x)), ew]
      · rw [hd, List.count_cons_of_ne (by exact c)]; exact this
theorem riOn_ev (s : ByteArray) (hs : s.size ≤ 1048576) : Ev (fun k => spec_riOn.f k s) (onN s : Int) := by
  have := riOn_l0 s hs s.data.toList.length 0 0 (by omega) (by omega)
  have h2 : Ev (fun k => spec_riOn.l0 k s 0 0) (onN s : Int) := by simpa [onN] using this
  exact h2

/-! ### after impl_CountOn -/
theorem countOn_eq (s : ByteArray) (h : s.size ≤ 1048576) (hst : stateB s = true) : impl_CountOn.f s = some ((onN s : Int), true) := by
  have hc : strings_Count.f s (⟨#[49]⟩ : ByteArray) = some (onN s : Int) := by
    unfold strings_Count.f
    rw [if_pos (by decide)]
    rfl
  simp only [impl_CountOn.f, isState_eq s (by omega), hst, Option.bind_some, hc, if_true]

/-! ### after impl_canMove -/
theorem canMove_eq (s : ByteArray) (a : Int) (h : s.size ≤ 1048576) (hst : s.data.toList.all isBit = true) : impl_canMove.f s a = some (canB s a) := by
  have hz : s.size = s.data.toList.length := Lib.size_eq s
  unfold canB
  by_cases h0 : a = 0
  · simp [impl_canMove.f, h0]
  · have ew : wrap64 ((s.size : Int) - 1) = (s.size : Int) - 1 := w64 (by omega) (by omega)
    simp only [impl_canMove.f, impl_in.f, inB_ite, Option.bind_some, ew, if_neg h0]
    cases hb : inB a 1 ((s.size : Int) - 1)
    · simp [h0]
    · have h1 := inB_lo hb
      have h2 := inB_hi hb
      have ea : wrap64 (a - 1) = a - 1 := w64 (by omega) (by omega)
      rw [ea, if_pos rfl, if_pos (by omega), if_pos (by omega), if_pos (show a - 1 ≤ (s.size : Int) by omega)]
      by_cases h49 : bt s (a - 1) = 49
      · have hx : (s.extract 0 (a - 1).toNat).size ≤ 9223372036854775807 := by
          rw [Lib.size_eq, extract_toNat, List.length_take]; omega
        have ht : strings_Trim.f (s.extract 0 (a - 1).toNat) (⟨#[48]⟩ : ByteArray) = some ⟨(Lib.trimS (s.data.toList.take (a - 1).toNat) [48]).toArray⟩ := by
          unfold strings_Trim.f
          rw [if_pos ⟨hx, by decide, by decide⟩, extract_toNat]
        rw [if_pos h49, ht]
        simp only [Option.bind_some, trimS_beq]
        congr 1
        have hall : ∀ b ∈ s.data.toList.take (a - 1).toNat, isBit b = true := fun b hb => List.all_eq_true.1 hst b (List.mem_of_mem_take hb)
        generalize s.data.toList.take (a - 1).toNat = l at hall
        simp only [h0, decide_false, Bool.false_or, h49, decide_true, Bool.true_and]
        induction l with
        | nil => rfl
        | cons b l ih =>
          have hb1 := hall b (by simp)
          have ih' := ih (fun x hx => hall x (by simp [hx]))
          simp only [isBit, Bool.or_eq_true, beq_iff_eq] at hb1
          rcases hb1 with rfl | rfl
          · simpa using ih'
          · simp
      · simp [h49, h0]

/-! ### after spec_riCan -/
theorem riCan_ev (s : ByteArray) (a : Int) (h : s.size ≤ 1048576) : Ev (fun k => spec_riCan.f k s a) (decide (a = 0) || inB a 1 ((s.size : Int) - 1) && decide (bt s (a - 1) = 49) && decide ((s.data.toList.take (a - 1).toNat).count 49 = 0)) := by
  have hz : s.size = s.data.toList.length := Lib.size_eq s
  by_cases h0 : a = 0
  · exact ⟨0, fun k _ => by simp [spec_riCan.f, h0]⟩
  · have ew : wrap64 ((s.size : Int) - 1) = (s.size : Int) - 1 := w64 (by omega) (by omega)
    cases hb : inB a 1 ((s.size : Int) - 1)
    · exact ⟨0, fun k _ => by simp [spec_riCan.f, h0, spec_l1In.f, inB_ite, ew, hb]⟩
    · have h1 := inB_lo hb
      have h2 := inB_hi hb
      have ea : wrap64 (a - 1) = a - 1 := w64 (by omega) (by omega)
      by_cases h49 : bt s (a - 1) = 49
      · have hx : (s.extract 0 (a - 1).toNat).size ≤ 1048576 := by
          rw [Lib.size_eq, extract_toNat, List.length_take]; omega
        obtain ⟨K, hK⟩ := riOn_ev (s.extract 0 (a - 1).toNat) hx
        refine ⟨K, fun k hk => ?_⟩
        simp only [spec_riCan.f, if_neg h0, spec_l1In.f, inB_ite, ew, hb, Option.bind_some, if_true, ea]
        rw [if_pos (by omega), if_pos (by omega), if_pos h49, if_pos (by omega), show spec_riOn.f k (s.extract 0 (a - 1).toNat) = _ from hK k hk]
        simp only [Option.bind_some, onN, extract_toNat, h0, h49, decide_true, decide_false, Bool.false_or, Bool.true_and]
        congr 1
        rw [Bool.eq_iff_iff]
        simp
      · refine ⟨0, fun k _ => ?_⟩
        simp only [spec_riCan.f, if_neg h0, spec_l1In.f, inB_ite, ew, hb, Option.bind_some, if_true, ea]
        rw [if_pos (by omega), if_pos (by omega), if_neg h49]
        simp [h0, h49]

/-! ### after impl_IsClue -/
theorem pzClueA_eq (n : Nat) (r k a b : Int) (h : 0 ≤ r) : spec_pzClue.f (n + 1) r k a b = some (clueB r k a b) := by
  simp only [spec_pzClue.f, spec_pzClue.j0, spec_l1In.f, inB_ite, Option.bind_some, and_some, clueB]
  by_cases h0 : k = 0
  · simp [h0]
  · by_cases h4 : k = 4
    · simp [h4]
    · by_cases h1 : k = 1
      · simp [h1]
      · by_cases h2 : k = 2
        · simp [h2]
        · by_cases h3 : k = 3
          · simp [h3, h]
          · simp [h0, h1, h2, h3, h4]
theorem implClueA_j0 (k : Nat) (a b : Int) (t : Bool) (c d e : Int) : impl_IsClue.j0 k a b t c d e = spec_pzClue.j0 k a b t c d e := by
  cases k with
  | zero => rfl
  | succ k => rfl
theorem implClueA_eq (n : Nat) (r k a b : Int) : impl_IsClue.f (n + 1) r k a b = some (isClueB r k a b) := by
  simp only [impl_IsClue.f, impl_in.f, inB_ite, Option.bind_some, isClueB, implClueA_j0]
  cases h : inB r 1 7
  · rfl
  · have := pzClueA_eq n r k a b (by have := inB_lo h; omega)
    simp only [spec_pzClue.f] at this
    simp [this]

/-! ### after impl_Clue_told -/
theorem riCan_evB (s : ByteArray) (a : Int) (h : s.size ≤ 1048576) : Ev (fun k => spec_riCan.f k s a) (canB s a) := riCan_ev s a h
def numChk (l : List UInt8) : Bool :=
  match impl_number.f 12 ⟨l.toArray⟩, spec_riNumber.f 12 ⟨l.toArray⟩ with
  | some a, some b => a == b && decide (0 ≤ a) && decide (a < 128)
  | _, _ => false
theorem num_all : ((List.range 8).all fun n => (allS n).all numChk) = true := by decide +kernel
def numB (s : ByteArray) : Int := (impl_number.f 12 s).getD 0
theorem numB_ev (s : ByteArray) (hs : s.size ≤ 7) (hb : s.data.toList.all isBit = true) : 0 ≤ numB s ∧ numB s < 128 ∧ (∀ k, 12 ≤ k → impl_number.f k s = some (numB s)) ∧ Ev (fun k => spec_riNumber.f k s) (numB s) := by
  have hz : s.size = s.data.toList.length := Lib.size_eq s
  have h1 := List.all_eq_true.1 num_all s.data.toList.length (List.mem_range.2 (by omega))
  have h2 := List.all_eq_true.1 h1 _ (mem_allS _ hb)
  have e : (⟨s.data.toList.toArray⟩ : ByteArray) = s := by simp
  unfold numChk at h2
  rw [e] at h2
  unfold numB
  split at h2
  · rename_i a b ha hb'
    simp only [Bool.and_eq_true, beq_iff_eq, decide_eq_true_eq] at h2
    obtain ⟨⟨rfl, h3⟩, h4⟩ := h2
    rw [ha]
    exact ⟨h3, h4, fun k hk => at_rounds (impl_number.mono s) hk ha, Ev.of (spec_riNumber.mono s) hb'⟩
  · cases h2
/-- What a clue of a kind tells of a state. -/
def valB (k a : Int) (s : ByteArray) : Int := if k = 0 then (bt s a - 48) % 256 else if k = 1 then (onN s : Int) else if k = 2 then Int.tmod (numB s) a else if k = 3 then (if numB s - a > a - numB s then numB s - a else a - numB s) else (if canB s a = true then 1 else 0)
def fitsB (k a b : Int) (s : ByteArray) : Bool := if k = 1 then valB 1 0 s == a else valB k a s == b
theorem pzValue_ev (k a : Int) (s : ByteArray) (hs : s.size ≤ 7) (hb : s.data.toList.all isBit = true) (ha : okArg s.size k a) : Ev (fun n => spec_pzValue.f n k a s) (valB k a s) := by
  obtain ⟨n0, n1, _, K, hn⟩ := numB_ev s hs hb
  obtain ⟨K2, h2⟩ := riOn_ev s (by omega)
  obtain ⟨K3, h3⟩ := riCan_evB s a (by omega)
  unfold valB
  unfold okArg at ha
  refine ⟨K + K2 + K3, fun n hk => ?_⟩
  have hn := hn n (by omega)
  have h2 := h2 n (by omega)
  have h3 := h3 n (by omega)
  simp only at hn h2 h3
  by_cases c0 : k = 0
  · subst c0
    simp only [true_or, if_true] at ha
    simp only [spec_pzValue.f, if_true]
    rw [if_pos (by omega), if_pos (by omega)]
  · by_cases c1 : k = 1
    · subst c1
      simp [spec_pzValue.f, h2]
    · by_cases c2 : k = 2
      · subst c2
        simp only [show ¬ ((2 : Int) = 0 ∨ (2 : Int) = 4) by decide, if_false, if_true] at ha
        have : ¬ a = 0 := by omega
        simp [spec_pzValue.f, hn, this]
      · by_cases c3 : k = 3
        · subst c3
          simp only [show ¬ ((3 : Int) = 0 ∨ (3 : Int) = 4) by decide, show ¬ ((3 : Int) = 2) by decide, if_false, if_true] at ha
          have e1 : wrap64 (numB s - a) = numB s - a := w64 (by omega) (by omega)
          have e2 : wrap64 (-(numB s - a)) = a - numB s := by rw [w64 (by omega) (by omega)]; omega
          simp only [spec_pzValue.f, hn, c0, c1, c2, if_false, if_true, Option.bind_some, spec_l1Abs.f, spec_l1Most.f, e1, e2]
          split <;> rfl
        · simp only [spec_pzValue.f, c0, c1, c2, c3, if_false, h3, Option.bind_some]
          cases canB s a <;> rfl
theorem told_ev (k a b : Int) (s : ByteArray) (hs : s.size ≤ 7) (hst : stateB s = true) (ha : okArg s.size k a) (h4 : 0 ≤ k ∧ k ≤ 4) : ∀ n, 12 ≤ n → impl_Clue_told.f n k a b s = some (k, if k = 1 then valB 1 0 s else a, if k = 1 then 0 else valB k a s) := by
  have hb : s.data.toList.all isBit = true := by unfold stateB at hst; simp only [Bool.and_eq_true] at hst; exact hst.2
  obtain ⟨n0, n1, hn, _⟩ := numB_ev s hs hb
  have h2 := countOn_eq s (by omega) hst
  have h3 := canMove_eq s a (by omega) hb
  unfold valB
  unfold okArg at ha
  intro n hk
  have hn := hn n hk
  by_cases c0 : k = 0
  · subst c0
    simp only [true_or, if_true] at ha
    simp only [impl_Clue_told.f, if_true, impl_Clue_told_S1.f]
    rw [if_pos (by omega), if_pos (by omega)]
    have hz : s.size = s.data.toList.length := Lib.size_eq s
    obtain ⟨i, rfl⟩ : ∃ i : Nat, a = i := ⟨a.toNat, by omega⟩
    have hi : i < s.data.toList.length := by omega
    have hbi := List.all_eq_true.1 hb _ (List.getElem_mem hi)
    rw [bt_nat s i hi]
    simp only [isBit, Bool.or_eq_true, beq_iff_eq] at hbi
    rcases hbi with e | e <;> rw [e] <;> rfl
  · by_cases c1 : k = 1
    · subst c1
      simp [impl_Clue_told.f, h2]
    · by_cases c2 : k = 2
      · subst c2
        simp only [show ¬ ((2 : Int) = 0 ∨ (2 : Int) = 4) by decide, if_false, if_true] at ha
        have : ¬ a = 0 := by omega
        simp [impl_Clue_told.f, hn, this]
      · by_cases c3 : k = 3
        · subst c3
          simp only [show ¬ ((3 : Int) = 0 ∨ (3 : Int) = 4) by decide, show ¬ ((3 : Int) = 2) by decide, if_false, if_true] at ha
          have e1 : wrap64 (numB s - a) = numB s - a := w64 (by omega) (by omega)
          have e2 : wrap64 (a - numB s) = a - numB s := w64 (by omega) (by omega)
          simp only [impl_Clue_told.f, hn, c0, c1, c2, if_false, if_true, Option.bind_some, impl_apart.f, e1, e2, mx]
          congr 3
          split <;> split <;> omega
        · have c4 : k = 4 := by omega
          simp only [impl_Clue_told.f, c0, c1, c2, c3, c4, if_false, if_true, h3, Option.bind_some, impl_Clue_told_S1.f]
          cases canB s a <;> rfl

/-! ### after impl_Clue_fits -/
theorem fits_12 (k a b : Int) (s : ByteArray) (hs : s.size ≤ 7) (hst : stateB s = true) (hc : clueB s.size k a b = true) :
    Ev (fun n => spec_pzFits.f n k a b s) (fitsB k a b s) ∧ ∀ n, 12 ≤ n → impl_Clue_fits.f n k a b s = some (fitsB k a b s) := by
  have hb := stateB_bits hst
  have h1 : 1 ≤ (s.size : Int) := by unfold stateB at hst; simp only [Bool.and_eq_true] at hst; exact inB_lo hst.1
  obtain ⟨ha, hk0, hk4, hk1⟩ := okArg_of h1 (by omega) hc
  have ht := told_ev k a b s hs hst ha ⟨hk0, hk4⟩
  unfold fitsB
  by_cases c1 : k = 1
  · subst c1
    obtain ⟨K2, hv⟩ := pzValue_ev 1 0 s hs hb (by simp [okArg])
    refine ⟨⟨K2, fun n hn => ?_⟩, fun n hn => ?_⟩
    · have := hv n hn
      simp only at this
      simp [spec_pzFits.f, this]
    · have := ht n hn
      simp only [if_true] at this
      have e := hk1 rfl
      subst e
      simp [impl_Clue_fits.f, this]
  · obtain ⟨K2, hv⟩ := pzValue_ev k a s hs hb ha
    refine ⟨⟨K2, fun n hn => ?_⟩, fun n hn => ?_⟩
    · have := hv n hn
      simp only at this
      simp [spec_pzFits.f, this, c1]
    · have := ht n hn
      simp only [if_neg c1] at this
      simp [impl_Clue_fits.f, this, c1]
theorem fits_ev (k a b : Int) (s : ByteArray) (hs : s.size ≤ 7) (hst : stateB s = true) (hc : clueB s.size k a b = true) :
    Ev (fun n => spec_pzFits.f n k a b s) (fitsB k a b s) ∧ Ev (fun n => impl_Clue_fits.f n k a b s) (fitsB k a b s) :=
  ⟨(fits_12 k a b s hs hst hc).1, ⟨12, (fits_12 k a b s hs hst hc).2⟩⟩

/-! ### after impl_fitting -/
def stS (r : Int) (n : Nat) : ByteArray := (spec_riState.f 40 r n).getD ⟨#[]⟩
def stChk (r n : Nat) : Bool :=
  match impl_state.f 40 r n, spec_riState.f 40 r n with
  | some a, some b => a.data.toList == b.data.toList && stateB a && a.size == r
  | _, _ => false
theorem st_all : ((List.range 8).all fun r => r == 0 || (List.range (2 ^ r)).all fun n => stChk r n) = true := by decide +kernel
theorem st_of (r n : Nat) (h1 : 1 ≤ r) (h7 : r ≤ 7) (hn : n < 2 ^ r) : (∀ k, 40 ≤ k → impl_state.f k r n = some (stS r n)) ∧ (∀ k, 40 ≤ k → spec_riState.f k r n = some (stS r n)) ∧ stateB (stS r n) = true ∧ (stS r n).size = r := by
  have h := List.all_eq_true.1 st_all r (List.mem_range.2 (by omega))
  simp only [Bool.or_eq_true, beq_iff_eq] at h
  have h := List.all_eq_true.1 (h.resolve_left (by omega)) n (List.mem_range.2 hn)
  unfold stChk at h
  unfold stS
  split at h
  · rename_i a b ha hb
    simp only [Bool.and_eq_true, beq_iff_eq] at h
    obtain ⟨⟨e, hs⟩, hz⟩ := h
    have e2 : a = b := by
      have : a.data = b.data := Array.toList_inj.1 e
      cases a; cases b; simp_all
    subst e2
    rw [hb]
    exact ⟨fun k hk => at_rounds (impl_state.mono r n) hk ha, fun k hk => at_rounds (spec_riState.mono r n) hk hb, hs, hz⟩
  · cases h
theorem shl_pow (r : Nat) (h1 : 1 ≤ r) (h7 : r ≤ 7) : shl .i64 1 (r : Int) = ((2 ^ r : Nat) : Int) := by
  have : r = 1 ∨ r = 2 ∨ r = 3 ∨ r = 4 ∨ r = 5 ∨ r = 6 ∨ r = 7 := by omega
  rcases this with rfl | rfl | rfl | rfl | rfl | rfl | rfl <;> decide +kernel
def fitP (r : Int) (l : List S95) (n : Nat) : Bool := l.all fun x => fitsB x.f0 x.f1 x.f2 (stS r n)
/-- The states that fit all of some clues, by their numbers. -/
def solB (r : Int) (l : List S95) : List ByteArray := ((List.range (2 ^ r.toNat)).filter (fitP r l)).map (stS r)
theorem puzzle_of {r : Int} {l : List S95} (h : isPuzzleB r l = true) : 1 ≤ r ∧ r ≤ 7 ∧ l.length ≤ 6 ∧ ∀ x ∈ l, clueB r x.f0 x.f1 x.f2 = true := by
  unfold isPuzzleB at h
  simp only [Bool.and_eq_true, decide_eq_true_eq, Bool.not_eq_true', List.any_eq_false] at h
  refine ⟨inB_lo h.1.1, inB_hi h.1.1, h.1.2, fun x hx => ?_⟩
  have := h.2 x hx
  simp only [isClueB, h.1.1, Bool.true_and, Bool.not_eq_true', Bool.not_eq_false] at this
  exact this
theorem takeN_eq (r n : Nat) (l : List S95) (h1 : 1 ≤ r) (h7 : r ≤ 7) (hn : n < 2 ^ r) (hl : ∀ x ∈ l, clueB r x.f0 x.f1 x.f2 = true) : takeN r l n = some (fitP r l n) := by
  obtain ⟨ha, _, hs, hz⟩ := st_of r n h1 h7 hn
  unfold takeN
  rw [ha 40 (Nat.le_refl _), Option.bind_some]
  have hf : ∀ x ∈ l, impl_Clue_fits.f 40 x.f0 x.f1 x.f2 (stS r n) = some (fitsB x.f0 x.f1 x.f2 (stS r n)) := fun x hx =>
    (fits_12 x.f0 x.f1 x.f2 (stS r n) (by omega) hs (by rw [hz]; exact hl x hx)).2 40 (by omega)
  unfold fitAll
  rw [if_pos (List.all_eq_true.2 fun x hx => by rw [hf x hx]; rfl)]
  congr 1
  unfold fitP
  rw [List.all_eq_not_any_not]
  congr 1
  rw [Bool.eq_iff_iff, List.any_eq_true, List.any_eq_true]
  constructor
  · rintro ⟨x, hx, h⟩
    exact ⟨x, hx, by rw [hf x hx] at h; exact h⟩
  · rintro ⟨x, hx, h⟩
    exact ⟨x, hx, by rw [hf x hx]; exact h⟩
theorem with_l0 (T : Int → Option Bool) (p : Nat → Bool) (r N : Nat) (st : Nat → ByteArray) (hN : N ≤ 128) (hT : ∀ i, i < N → T i = some (p i)) (hst : ∀ i, i < N → ∀ k, 40 ≤ k → impl_state.f k r i = some (st i)) :
    ∀ (m n : Nat) (acc : List ByteArray) (k : Nat), n + m = N → m + 41 ≤ k → acc.length ≤ n → impl_withNumbers.l0 T k r acc N n = some (acc ++ ((List.range' n m).filter p).map st) := by
  intro m
  induction m with
  | zero =>
    intro n acc k hn hk ha
    obtain ⟨k, rfl⟩ : ∃ j, k = j + 1 := ⟨k - 1, by omega⟩
    rw [impl_withNumbers.l0, if_neg (by omega)]
    simp
  | succ m ih =>
    intro n acc k hn hk ha
    obtain ⟨k, rfl⟩ : ∃ j, k = j + 1 := ⟨k - 1, by omega⟩
    have ew : wrap64 ((n : Int) + 1) = ((n + 1 : Nat) : Int) := by rw [w64 (by omega) (by omega)]; omega
    rw [impl_withNumbers.l0, if_pos (by omega), hT n (by omega), Option.bind_some, ew, List.range'_succ, List.filter_cons]
    cases hp : p n
    · simp only [Bool.false_eq_true, if_false]
      exact ih (n + 1) acc k (by omega) (by omega) (by omega)
    · simp only [if_true]
      rw [hst n (by omega) k (by omega), Option.bind_some, if_pos (by omega)]
      rw [ih (n + 1) (acc ++ [st n]) k (by omega) (by omega) (by simp; omega)]
      simp
theorem fitting_eq (r : Int) (l : List S95) (h : isPuzzleB r l = true) : impl_fitting.f r l = some (solB r l) := by
  obtain ⟨h1, h7, hl, hc⟩ := puzzle_of h
  obtain ⟨n, rfl⟩ : ∃ n : Nat, r = n := ⟨r.toNat, by omega⟩
  have hp : 2 ^ n ≤ 2 ^ 7 := Nat.pow_le_pow_right (by omega) (by omega)
  have e := with_l0 (takeN n l) (fitP n l) n (2 ^ n) (stS n) (by omega) (fun i hi => takeN_eq n i l (by omega) (by omega) hi hc) (fun i hi => (st_of n i (by omega) (by omega) hi).1) (2 ^ n) 0 [] 200 (by omega) (by omega) (by simp)
  unfold impl_fitting.f impl_withNumbers.f
  rw [if_pos (by omega), shl_pow n (by omega) (by omega)]
  have e' : impl_withNumbers.l0 (takeN n l) 200 n [] ((2 ^ n : Nat) : Int) 0 = _ := e
  rw [e']
  simp [solB, List.range_eq_range']
theorem solB_length (r : Int) (l : List S95) : (solB r l).length ≤ 2 ^ r.toNat := by
  unfold solB
  rw [List.length_map]
  exact Nat.le_trans (List.length_filter_le _ _) (by simp)

/-! ### after impl_Puzzle_solutions -/
theorem solutions_eq (r : Int) (l : List S95) (h : isPuzzleB r l = true) : impl_Puzzle_solutions.f r l = some (solB r l) := by
  simp [impl_Puzzle_solutions.f, fitting_eq r l h]

/-! ### after impl_fitting -/
theorem pzAll_l1 (r : Int) (l : List S95) (acc : List ByteArray) (n : Int) (s : ByteArray) (hl : l.length ≤ 6) (p : S95 → Bool) (hp : ∀ x ∈ l, Ev (fun k => spec_pzFits.f k x.f0 x.f1 x.f2 s) (p x)) (hacc : acc.length ≤ 128) (R : List ByteArray) :
    ∀ (m i : Nat) (fl : Bool), i + m = l.length → Ev (fun k => if (fl && (l.drop i).all p) = true then spec_pzAll.l0 k r l (acc ++ [s]) (wrap64 (n + 1)) else spec_pzAll.l0 k r l acc (wrap64 (n + 1))) R → Ev (fun k => spec_pzAll.l1 k r l acc n s fl l (l.length : Int) (i : Int)) R := by
  intro m
  induction m with
  | zero =>
    intro i fl hi h
    refine Ev.next ⟨0, fun k _ => ?_⟩ h
    rw [spec_pzAll.l1, if_neg (by omega), List.drop_of_length_le (by omega)]
    cases fl
    · simp
    · rw [if_pos rfl, if_pos (by omega)]
      simp
  | succ m ih =>
    intro i fl hi h
    have hi' : i < l.length := by omega
    have ew : wrap64 ((i : Int) + 1) = ((i + 1 : Nat) : Int) := by rw [w64 (by omega) (by omega)]; omega
    have e : rd_T95 l (i : Int) = l[i] := by simp [rd_T95, hi']
    have hd : l.drop i = l[i] :: l.drop (i + 1) := (List.getElem_cons_drop hi').symm
    rw [hd, List.all_cons] at h
    obtain ⟨K, hK⟩ := hp l[i] (List.getElem_mem hi')
    cases fl with
    | true =>
      refine Ev.next (f := fun k => spec_pzAll.l1 k r l acc n s (p l[i]) l (l.length : Int) ((i + 1 : Nat) : Int)) ⟨K, fun k hk => ?_⟩ (ih (i + 1) (p l[i]) (by omega) (by simpa using h))
      have := hK k hk
      simp only at this
      rw [spec_pzAll.l1, if_pos (by omega), if_pos (by omega), if_pos (by omega), if_pos rfl, e, this, Option.bind_some, ew]
    | false =>
      refine Ev.next (f := fun k => spec_pzAll.l1 k r l acc n s false l (l.length : Int) ((i + 1 : Nat) : Int)) ⟨0, fun k hk => ?_⟩ (ih (i + 1) false (by omega) (by simpa using h))
      rw [spec_pzAll.l1, if_pos (by omega), if_pos (by omega), if_pos (by omega), if_neg (by simp), ew]
theorem pzAll_l0 (r : Nat) (l : List S95) (h1 : 1 ≤ r) (h7 : r ≤ 7) (hl : l.length ≤ 6) (hc : ∀ x ∈ l, clueB r x.f0 x.f1 x.f2 = true) :
    ∀ (m n : Nat) (acc : List ByteArray), n + m = 2 ^ r → acc.length ≤ n → Ev (fun k => spec_pzAll.l0 k r l acc n) (acc ++ ((List.range' n m).filter (fitP r l)).map (stS r)) := by
  have hp : 2 ^ r ≤ 2 ^ 7 := Nat.pow_le_pow_right (by omega) (by omega)
  intro m
  induction m with
  | zero =>
    intro n acc hn ha
    refine Ev.last fun k => ?_
    rw [spec_pzAll.l0, if_pos (by omega), shl_pow r h1 h7, if_neg (by omega)]
    simp
  | succ m ih =>
    intro n acc hn ha
    have ew : wrap64 ((n : Int) + 1) = ((n + 1 : Nat) : Int) := by rw [w64 (by omega) (by omega)]; omega
    obtain ⟨_, hs, hb, hz⟩ := st_of r n h1 h7 (by omega)
    refine Ev.next (f := fun k => spec_pzAll.l1 k r l acc n (stS r n) true l (l.length : Int) ((0 : Nat) : Int)) ⟨40, fun k hk => ?_⟩ ?_
    · rw [spec_pzAll.l0, if_pos (by omega), shl_pow r h1 h7, if_pos (by omega), hs k hk, Option.bind_some]
      rfl
    · refine pzAll_l1 r l acc n (stS r n) hl (fun x => fitsB x.f0 x.f1 x.f2 (stS r n)) (fun x hx => (fits_12 x.f0 x.f1 x.f2 (stS r n) (by omega) hb (by rw [hz]; exact hc x hx)).1) (by omega) _ l.length 0 true (by omega) ?_
      rw [ew, List.range'_succ, List.filter_cons]
      simp only [List.drop_zero, Bool.true_and]
      show Ev (fun k => if fitP r l n = true then _ else _) _
      cases hq : fitP r l n
      · simp only [Bool.false_eq_true, if_false]
        exact ih (n + 1) acc (by omega) (by omega)
      · simp only [if_true]
        have := ih (n + 1) (acc ++ [stS r n]) (by omega) (by simp; omega)
        simpa using this
theorem pzAll_ev (r : Int) (l : List S95) (h : isPuzzleB r l = true) : Ev (fun k => spec_pzAll.f k r l) (solB r l) := by
  obtain ⟨h1, h7, hl, hc⟩ := puzzle_of h
  obtain ⟨n, rfl⟩ : ∃ n : Nat, r = n := ⟨r.toNat, by omega⟩
  have := pzAll_l0 n l (by omega) (by omega) hl hc (2 ^ n) 0 [] (by omega) (by simp)
  have e : Ev (fun k => spec_pzAll.l0 k n l [] 0) (solB n l) := by simpa [solB, List.range_eq_range'] using this
  exact e

/-! ### after impl_Solutions -/
def solsR (r : Int) (l : List S95) : List ByteArray × Bool := if isPuzzleB r l = true then (solB r l, true) else ([], false)
theorem implSolutions_eq (r : Int) (l : List S95) : impl_Solutions.f r l = some (solsR r l) := by
  unfold solsR
  cases h : isPuzzleB r l
  · simp [impl_Solutions.f, impl_IsPuzzle.f, h]
  · simp [impl_Solutions.f, impl_IsPuzzle.f, h, solutions_eq r l h]

/-! ### after impl_SureSigns -/
theorem sol_mem {r : Int} {l : List S95} (h : isPuzzleB r l = true) {s : ByteArray} (hs : s ∈ solB r l) : stateB s = true ∧ (s.size : Int) = r := by
  obtain ⟨h1, h7, _, _⟩ := puzzle_of h
  unfold solB at hs
  obtain ⟨n, hn, rfl⟩ := List.mem_map.1 hs
  have hn := List.mem_range.1 (List.mem_filter.1 hn).1
  obtain ⟨m, rfl⟩ : ∃ m : Nat, r = (m : Int) := ⟨r.toNat, by omega⟩
  have := st_of m n (by omega) (by omega) (by simpa using hn)
  exact ⟨this.2.2.1, by rw [this.2.2.2]⟩
theorem sol_ok {r : Int} {l : List S95} (h : isPuzzleB r l = true) (hl : ¬ (solB r l).length = 0) : sureOk (solB r l) = true := by
  obtain ⟨h1, h7, _, _⟩ := puzzle_of h
  have h0 : (solB r l).getD 0 ByteArray.empty ∈ solB r l := by
    have hp : 0 < (solB r l).length := by omega
    simp only [List.getD, List.getElem?_eq_getElem hp, Option.getD_some]
    exact List.getElem_mem hp
  have hz := (sol_mem h h0).2
  unfold sureOk
  simp only [Bool.and_eq_true, decide_eq_true_eq]
  refine ⟨by omega, ?_⟩
  rw [List.all_eq_true]
  intro s hs
  have := sol_mem h hs
  simp only [Bool.and_eq_true, beq_iff_eq]
  exact ⟨by omega, stateB_bits this.1⟩
def sureR (r : Int) (l : List S95) : ByteArray × Bool := if isPuzzleB r l = true ∧ ¬ (solB r l).length = 0 then (sureS (solB r l), true) else (⟨#[]⟩, false)
theorem implSure_eq (r : Int) (l : List S95) : impl_SureSigns.f r l = some (sureR r l) := by
  unfold sureR
  simp only [impl_SureSigns.f, implSolutions_eq, Option.bind_some, solsR]
  cases h : isPuzzleB r l
  · simp
  · simp only [if_true]
    by_cases c : (solB r l).length = 0
    · rw [if_pos c, if_neg (by simp [c])]
    · rw [if_neg c, if_pos (sol_ok h c), if_pos (by simp [c])]

/-! ### after spec_SureSigns -/
theorem specSure_ev (r : Int) (l : List S95) (hl : l.length ≤ 1048576) : Ev (fun k => spec_SureSigns.f k r l) (sureR r l) := by
  obtain ⟨K1, h1⟩ := pzGood_ev r l (by omega)
  unfold sureR
  cases h : isPuzzleB r l
  · rw [h] at h1
    refine ⟨K1, fun k hk => ?_⟩
    have h1 := h1 k hk
    simp only at h1
    simp [spec_SureSigns.f, h1]
  · rw [h] at h1
    obtain ⟨K2, h2⟩ := pzAll_ev r l h
    refine ⟨K1 + K2, fun k hk => ?_⟩
    have h1 := h1 k (by omega)
    have h2 := h2 k (by omega)
    simp only at h1 h2
    simp only [spec_SureSigns.f, h1, h2, Option.bind_some, if_true]
    by_cases c : (solB r l).length = 0
    · rw [if_pos c, if_neg (by simp [c])]
    · rw [if_neg c, if_pos (sol_ok h c), if_pos (by simp [c])]

end Go.Proofs.YtpjdlobkeafacaaDoor.PSureSigns
