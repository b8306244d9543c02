/- What the printed functions answer, function by function: plain statements, without memory. (wip/after) -/
import Derived.Test.YtdkcppnfjmcloaaPAddCluex
import Derived.Test.YtdkcppnfjmcloaaEv
import Derived.Test.YtdkcppnfjmcloaaState
namespace Go.Proofs.Ytdkcppnfjmcloaa.PAddClue
open Go.RowKit Go.Proofs.YtdkcppnfjmcloaaW.PrintWords Go.Proofs.YtdkcppnfjmcloaaW.PrintLast Go.Proofs.YtdkcppnfjmcloaaW.PrintMore
set_option linter.unusedVariables false
set_option linter.unusedSimpArgs false
/-! ### after laws_szClueS -/
theorem laws_szClueS.eq (l : List S23) (a : Int) (h0 : 0 ≤ a) (h1 : a ≤ 1048576) (hl : l.length ≤ 9223372036854775807) : laws_szClueS.f l a = some (if a < l.length then -1 else a - l.length) := by
  unfold laws_szClueS.f
  rw [w64 (by omega) (by omega)]
  by_cases h : a < l.length
  · rw [if_pos (by omega), if_pos h]
  · rw [if_neg (by omega), if_neg h]


/-! ### after laws_toClueS -/
theorem laws_toClueS.ev (l : List S23) (hl : l.length ≤ 1048576) : Ev (fun k => laws_toClueS.f k l) (l.map (fun x : S23 => (⟨x.f0, x.f1, x.f2⟩ : S25))) := by
  have h1 : 0 ≤ (l.length : Int) := by omega
  have h2 : (l.length : Int).toNat ≤ 11728124029610 := by omega
  unfold laws_toClueS.f
  simp only [if_pos h1, if_pos h2]
  refine to_ev laws_toClueS.l0 (fun x : S23 => (⟨x.f0, x.f1, x.f2⟩ : S25)) ?_ ?_ l _ (by simp) (by omega)
  · intro l acc i h hc hl
    refine ⟨0, fun k _ => ?_⟩
    have e : rd_T23 l (i : Int) = l[i] := by simp [rd_T23, h]
    have ew : wrap64 ((i : Int) + 1) = ((i + 1 : Nat) : Int) := by rw [w64 (by omega) (by omega)]; omega
    rw [laws_toClueS.l0, if_pos (by omega), if_pos (by omega)]
    simp only [laws_toClue.f, Option.bind_some, e, ew, Int.toNat_natCast]
    rw [if_pos (by omega)]
  · intro k l acc
    rw [laws_toClueS.l0, if_neg (by omega)]


/-! ### after laws_eqClueS -/
theorem laws_eqClueS.ev (l : List S25) (hl : l.length ≤ 9223372036854775807) : Ev (fun k => laws_eqClueS.f k l l) true := by
  unfold laws_eqClueS.f
  refine Ev.congr (f := fun k => laws_eqClueS.l0 k l l 0) (fun k => if_pos rfl) ?_
  refine eq_ev laws_eqClueS.l0 ?_ ?_ l hl
  · intro l i h hl
    refine ⟨0, fun k _ => ?_⟩
    have ew : wrap64 ((i : Int) + 1) = ((i + 1 : Nat) : Int) := by rw [w64 (by omega) (by omega)]; omega
    rw [laws_eqClueS.l0, if_pos (by omega), if_pos (by omega), if_pos (by omega)]
    simp [laws_eqClue.f, ew]
  · intro k l
    rw [laws_eqClueS.l0, if_neg (by omega)]


/-! ### after laws_markClueS -/
theorem laws_markClueS.ev (l : List S25) (a : Int) (h0 : 0 ≤ a) (hB : a + 3 * l.length ≤ 4611686018427387904) : Ev (fun k => laws_markClueS.f k l a) (a + 3 * l.length, marks (fun a : Int => (⟨a, a + 1, a + 2⟩ : S25)) 3 l.length a) := by
  unfold laws_markClueS.f
  refine mark_ev laws_markClueS.l0 (fun a : Int => (⟨a, a + 1, a + 2⟩ : S25)) 3 4611686018427387904 ?_ ?_ l a h0 hB (by omega)
  · intro l a i h h0 hB hl
    refine ⟨0, fun k _ => ?_⟩
    have ew : wrap64 ((i : Int) + 1) = ((i + 1 : Nat) : Int) := by rw [w64 (by omega) (by omega)]; omega
    have e1 : wrap64 (a + 1) = a + 1 := w64 (by omega) (by omega)
    have e2 : wrap64 (a + 2) = a + 2 := w64 (by omega) (by omega)
    have e3 : wrap64 (a + 3) = a + 3 := w64 (by omega) (by omega)
    rw [laws_markClueS.l0, if_pos (by omega), if_pos (by omega)]
    simp [ew, Int.add_assoc, rd_T25, List.set_set, h, e1, e2, e3]
  · intro k l a
    rw [laws_markClueS.l0, if_neg (by omega)]


/-! ### after laws_heldClueS -/
theorem laws_heldClueS.ev (n : Nat) (a : Int) (h0 : 0 ≤ a) (hB : a + 3 * n ≤ 4611686018427387904) : Ev (fun k => laws_heldClueS.f k (marks (fun a : Int => (⟨a, a + 1, a + 2⟩ : S25)) 3 n a) a) (a + 3 * n) := by
  unfold laws_heldClueS.f
  refine held_ev laws_heldClueS.l0 (fun a : Int => (⟨a, a + 1, a + 2⟩ : S25)) 3 4611686018427387904 ?_ ?_ n a h0 hB (by omega)
  · intro l a i h h0 hB hl hv
    refine ⟨0, fun k _ => ?_⟩
    have ew : wrap64 ((i : Int) + 1) = ((i + 1 : Nat) : Int) := by rw [w64 (by omega) (by omega)]; omega
    have e1 : wrap64 (a + 1) = a + 1 := w64 (by omega) (by omega)
    have e2 : wrap64 (a + 2) = a + 2 := w64 (by omega) (by omega)
    have e3 : wrap64 (a + 3) = a + 3 := w64 (by omega) (by omega)
    have e : rd_T25 l (i : Int) = l[i] := by simp [rd_T25, h]
    rw [laws_heldClueS.l0, if_pos (by omega), if_pos (by omega)]
    simp [e, hv, ew, Int.add_assoc, e1, e2, e3]
  · intro k l a
    rw [laws_heldClueS.l0, if_neg (by omega)]

/-! ### after spec_pzGood -/
theorem pzGood_ev (r : Int) (l : List S25) (hl : l.length ≤ 9223372036854775807) : Ev (fun k => spec_pzGood.f k r l) (isPuzzleB r l) := by
  have hj : ∀ b : Bool, 0 ≤ r → Ev (fun k => spec_pzGood.j0 k b r l) (if b = true then false else !(l.any fun x => !clueB r x.f0 x.f1 x.f2)) := by
    intro b hr
    cases b
    · refine Ev.next (f := fun k => spec_pzGood.l0 k l (l.length : Int) 0 r l) ⟨0, fun k _ => by rw [spec_pzGood.j0]; simp⟩ ?_
      have := any_ev (fun k i => spec_pzGood.l0 k l (l.length : Int) i r l) l (fun x => !clueB r x.f0 x.f1 x.f2) false true (fun i h => ⟨1, fun k hk => by
        obtain ⟨k, rfl⟩ : ∃ m, k = m + 1 := ⟨k - 1, by omega⟩
        have e : rd_T25 l (i : Int) = l[i] := by simp [rd_T25, h]
        have ew : wrap64 ((i : Int) + 1) = ((i + 1 : Nat) : Int) := by rw [w64 (by omega) (by omega)]; omega
        rw [spec_pzGood.l0, if_pos (by omega), if_pos (by omega), if_pos (by omega), pzClue_eq _ _ _ _ _ hr, e, ew]
        simp only [Option.bind_some]
        cases clueB r l[i].f0 l[i].f1 l[i].f2 <;> simp⟩) (fun k => by rw [spec_pzGood.l0, if_neg (by omega)])
      cases h : l.any fun x => !clueB r x.f0 x.f1 x.f2 <;> simpa [h] using this
    · refine Ev.last fun k => ?_
      rw [spec_pzGood.j0]; simp
  have e1 : ∀ k, spec_pzGood.f k r l = if inB r 1 7 = true then spec_pzGood.j0 k (decide ((l.length : Int) > 6)) r l else spec_pzGood.j0 k true r l := by
    intro k
    simp only [spec_pzGood.f, spec_pzRings.f, spec_l1In.f, inB_ite, Option.bind_some]
  refine Ev.congr e1 ?_
  unfold isPuzzleB
  cases h : inB r 1 7
  · simp only [Bool.false_and, Bool.false_eq_true, if_false]
    refine Ev.last fun k => ?_
    rw [spec_pzGood.j0]; simp
  · simp only [if_true]
    have hr := inB_lo h
    have := hj (decide ((l.length : Int) > 6)) (by omega)
    have hc : (l.any fun x => !isClueB r x.f0 x.f1 x.f2) = l.any fun x => !clueB r x.f0 x.f1 x.f2 := by simp [isClueB, h]
    rw [hc]
    by_cases h6 : l.length ≤ 6
    · have hd : decide ((l.length : Int) > 6) = false := decide_eq_false (by omega)
      rw [hd] at this ⊢
      simpa [h6] using this
    · have hd : decide ((l.length : Int) > 6) = true := decide_eq_true (by omega)
      rw [hd] at this ⊢
      simpa [h6] using this

/-! ### after laws_toPuzzle -/
def toClues (l : List S23) : List S25 := l.map fun x : S23 => (⟨x.f0, x.f1, x.f2⟩ : S25)
theorem toClues_length (l : List S23) : (toClues l).length = l.length := List.length_map _
theorem toPuzzle_ev (r : Int) (l : List S23) (hl : l.length ≤ 1048576) : Ev (fun k => laws_toPuzzle.f k r l) (r, toClues l) := by
  obtain ⟨K, hK⟩ := laws_toClueS.ev l hl
  exact ⟨K, fun k hk => by simp [laws_toPuzzle.f, hK k hk, toClues]⟩

/-! ### after laws_szPuzzle -/
theorem szPuzzle_eq (r : Int) (l : List S23) (hl : l.length ≤ 9223372036854775807) : laws_szPuzzle.f r l 1048576 = some (if (1048576 : Int) < l.length then (-1 : Int) else (1048576 : Int) - l.length) := by
  simp only [laws_szPuzzle.f, laws_szClueS.eq l 1048576 (by omega) (by omega) hl, Option.bind_some]
  by_cases h : (1048576 : Int) < l.length
  · simp [h]
  · simp only [h, if_false]
    rw [if_neg (by omega)]

/-! ### after laws_eqPuzzle -/
theorem eqPuzzle_ev (r : Int) (l : List S25) (hl : l.length ≤ 9223372036854775807) : Ev (fun k => laws_eqPuzzle.f k r l r l) true := by
  obtain ⟨K, hK⟩ := laws_eqClueS.ev l hl
  exact ⟨K, fun k hk => by simp [laws_eqPuzzle.f, hK k hk]⟩

/-! ### after laws_markPuzzle -/
def markedClues (n : Nat) : List S25 := marks (fun a : Int => (⟨a, a + 1, a + 2⟩ : S25)) 3 n 1
theorem markPuzzle_ev (r : Int) (l : List S25) (hl : l.length ≤ 1048577) : Ev (fun k => laws_markPuzzle.f k r l 1) (1 + 3 * l.length, markedClues l.length) := by
  obtain ⟨K, hK⟩ := laws_markClueS.ev l 1 (by omega) (by omega)
  exact ⟨K, fun k hk => by simp [laws_markPuzzle.f, hK k hk, markedClues]⟩

/-! ### after laws_heldPuzzle -/
theorem heldPuzzle_ev (r : Int) (n : Nat) (hl : n ≤ 1048577) : Ev (fun k => laws_heldPuzzle.f k r (markedClues n) 1) (1 + 3 * n) := by
  obtain ⟨K, hK⟩ := laws_heldClueS.ev n 1 (by omega) (by omega)
  exact ⟨K, fun k hk => by
    simp only [laws_heldPuzzle.f, markedClues, hK k hk, Option.bind_some]
    rw [if_neg (by omega)]⟩

/-! ### after impl_AddClue -/
theorem implAddClue_ev (r : Int) (l : List S25) (a b c : Int) (hl : l.length ≤ 1048576) : Ev (fun k => impl_AddClue.f k r l a b c) (if (isPuzzleB r l && isClueB r a b c && decide (l.length < 6)) = true then (r, l ++ [⟨a, b, c⟩], true) else (0, [], false)) := by
  refine ⟨1, fun k hk => ?_⟩
  obtain ⟨k, rfl⟩ : ∃ m, k = m + 1 := ⟨k - 1, by omega⟩
  simp only [impl_AddClue.f, impl_IsPuzzle.f, Option.bind_some, implClue_eq]
  cases h : isPuzzleB r l
  · simp
  · cases h2 : isClueB r a b c
    · simp
    · have hc : impl_Clue_57.f l = some l := if_pos (by omega)
      by_cases h6 : l.length < 6
      · simp only [if_true]
        rw [if_neg (by omega), hc]
        simp only [Option.bind_some, List.length_singleton]
        rw [if_pos (by omega)]
        simp [h6]
      · simp only [if_true]
        rw [if_pos (by omega)]
        simp [h6]

/-! ### after spec_AddClue -/
theorem specAddClue_ev (r : Int) (l : List S25) (a b c : Int) (hl : l.length ≤ 1048576) : Ev (fun k => spec_AddClue.f k r l a b c) (if (isPuzzleB r l && isClueB r a b c && decide (l.length < 6)) = true then (r, l ++ [⟨a, b, c⟩], true) else (0, [], false)) := by
  obtain ⟨K, hK⟩ := pzGood_ev r l (by omega)
  refine ⟨K + 1, fun k hk => ?_⟩
  simp only [spec_AddClue.f, hK k (by omega), Option.bind_some]
  obtain ⟨k, rfl⟩ : ∃ m, k = m + 1 := ⟨k - 1, by omega⟩
  cases h : isPuzzleB r l
  · simp
  · have hr : inB r 1 7 = true := by
      simp only [isPuzzleB, Bool.and_eq_true] at h; exact h.1.1
    have hl6 : l.length ≤ 6 := by
      simp only [isPuzzleB, Bool.and_eq_true, decide_eq_true_eq] at h; exact h.1.2
    have h0 := inB_lo hr
    simp only [if_true, pzClue_eq _ _ _ _ _ (by omega : 0 ≤ r), Option.bind_some, isClueB, hr, Bool.true_and]
    cases h2 : clueB r a b c
    · simp
    · by_cases h6 : l.length < 6
      · simp only [if_true]
        rw [if_neg (by omega)]
        rw [if_pos (by simp; omega), if_pos (by simp; omega)]
        simp [h6]
      · simp only [if_true]
        rw [if_pos (by omega)]
        simp [h6]

/-! ### after impl_IsClue -/
theorem pzClueA_eq (n : Nat) (r k a b : Int) (h : 0 ≤ r) : spec_pzClue.f (n + 1) r k a b = some (clueB r k a b) := by
  simp only [spec_pzClue.f, spec_pzClue.j0, spec_l1In.f, inB_ite, Option.bind_some, and_some, clueB]
  by_cases h0 : k = 0
  · simp [h0]
  · by_cases h4 : k = 4
    · simp [h4]
    · by_cases h1 : k = 1
      · simp [h1]
      · by_cases h2 : k = 2
        · simp [h2]
        · by_cases h3 : k = 3
          · simp [h3, h]
          · simp [h0, h1, h2, h3, h4]
theorem implClueA_j0 (k : Nat) (a b : Int) (t : Bool) (c d e : Int) : impl_IsClue.j0 k a b t c d e = spec_pzClue.j0 k a b t c d e := by
  cases k with
  | zero => rfl
  | succ k => rfl
theorem implClueA_eq (n : Nat) (r k a b : Int) : impl_IsClue.f (n + 1) r k a b = some (isClueB r k a b) := by
  simp only [impl_IsClue.f, impl_in.f, inB_ite, Option.bind_some, isClueB, implClueA_j0]
  cases h : inB r 1 7
  · rfl
  · have := pzClueA_eq n r k a b (by have := inB_lo h; omega)
    simp only [spec_pzClue.f] at this
    simp [this]

end Go.Proofs.Ytdkcppnfjmcloaa.PAddClue
