/- Made puzzles are fit by their state, harder ones are solved by the same, clues go with numbers and moves, and clues are added and dropped: for all states, puzzles, clues and numbers. No condition. -/
import Derived.Test.YtcogjabdddikjaaDoorQPHidAllz
namespace Go.Proofs.YtcogjabdddikjaaDoor.Pure
open Go.RowKit Go.Proofs.YtcogjabdddikjaaDoor.PHidAll Go.Proofs.YtcogjabdddikjaaDoorW.PrintWords Go.Proofs.YtcogjabdddikjaaDoorW.PrintLast Go.Proofs.YtcogjabdddikjaaDoorW.PrintMore
set_option linter.unusedVariables false
set_option linter.unusedSimpArgs false
set_option maxRecDepth 100000
theorem rd_clue (l : List S59) (i : Nat) (h : i < l.length) : rd_T59 l (i : Int) = l[i] := by simp [rd_T59, h]
theorem drop_facts {r : Int} {l : List S59} {a : Int} (h : (dropR r l a).2.2 = true) : isPuzzleB r l = true ∧ 0 ≤ a ∧ a < l.length ∧ l.length ≤ 6 ∧ dropR r l a = (r, l.eraseIdx a.toNat, true) := by
  unfold dropR at h ⊢
  by_cases c : (isPuzzleB r l && inB a 0 (wrap64 (l.length - 1))) = true
  · rw [if_pos c]
    simp only [Bool.and_eq_true] at c
    have h6 := (puzzle_of c.1).2.2.1
    have h0 := inB_lo c.2
    have h1 := inB_hi c.2
    rw [w64 (by omega) (by omega)] at h1
    exact ⟨c.1, h0, by omega, h6, rfl⟩
  · rw [if_neg c] at h; cases h
theorem add_facts {r : Int} {l : List S59} {a b c : Int} (h : (addR r l a b c).2.2 = true) : isPuzzleB r l = true ∧ isClueB r a b c = true ∧ l.length < 6 ∧ addR r l a b c = (r, l ++ [⟨a, b, c⟩], true) := by
  unfold addR at h ⊢
  by_cases q : (isPuzzleB r l && isClueB r a b c && decide (l.length < 6)) = true
  · rw [if_pos q]
    simp only [Bool.and_eq_true, decide_eq_true_eq] at q
    exact ⟨q.1.1, q.1.2, q.2, rfl⟩
  · rw [if_neg q] at h; cases h
theorem clue_is {r : Int} {l : List S59} (h : isPuzzleB r l = true) (i : Nat) (hi : i < l.length) : isClueB r l[i].f0 l[i].f1 l[i].f2 = true := by
  obtain ⟨h1, h7, _, hc⟩ := puzzle_of h
  simp [isClueB, inB_of h1 h7, hc _ (List.getElem_mem hi)]
theorem add_back {r : Int} {l : List S59} (h : isPuzzleB r l = true) (i : Nat) (hi : i + 1 = l.length) : addR r (l.eraseIdx i) (l[i]'(by omega)).f0 (l[i]'(by omega)).f1 (l[i]'(by omega)).f2 = (r, l, true) := by
  have h6 := (puzzle_of h).2.2.1
  have hlen : (l.eraseIdx i).length = l.length - 1 := by rw [List.length_eraseIdx, if_pos (by omega)]
  unfold addR
  rw [if_pos (by simp only [Bool.and_eq_true, decide_eq_true_eq]; exact ⟨⟨puzzle_erase h i, clue_is h i (by omega)⟩, by omega⟩)]
  have e : l.eraseIdx i ++ [l[i]'(by omega)] = l := by
    rw [List.eraseIdx_eq_take_drop_succ, List.drop_of_length_le (by omega), List.append_nil, ← List.take_succ_eq_append_getElem (by omega), List.take_of_length_le (by omega)]
  exact congrArg (fun z => (r, z, true)) e
theorem j9_ev (a : Int) (b : Bool) (r : Int) (l : List S59) (hb : b = true → (dropR r l a).2.2 = true ∧ a = (l.length : Int) - 1) :
    Ev (fun k => laws_FnStatesHiddenOfAll.j9 k a b r l (dropR r l a).1 (dropR r l a).2.1) true := by
  cases b with
  | false => exact Ev.last fun k => by rw [laws_FnStatesHiddenOfAll.j9, if_neg (by simp)]
  | true =>
    obtain ⟨h1, h2⟩ := hb rfl
    obtain ⟨hp, h0, hlt, h6, e⟩ := drop_facts h1
    obtain ⟨i, rfl⟩ : ∃ i : Nat, a = i := ⟨a.toNat, by omega⟩
    have hi : i + 1 = l.length := by omega
    obtain ⟨K1, e1⟩ := implAdd_all r (l.eraseIdx i) (l[i]'(by omega)).f0 (l[i]'(by omega)).f1 (l[i]'(by omega)).f2
    rw [add_back hp i hi] at e1
    obtain ⟨K2, e2⟩ := xPuzzle_ev r l (by omega)
    refine ⟨K1 + K2 + 1, fun k hk => ?_⟩
    obtain ⟨k, rfl⟩ : ∃ z, k = z + 1 := ⟨k - 1, by omega⟩
    have e1 := e1 k (by omega)
    have e2 := e2 k (by omega)
    simp only at e1 e2
    dsimp only
    rw [e, laws_FnStatesHiddenOfAll.j9, if_pos rfl, if_pos (by omega), if_pos hlt, rd_clue l i (by omega)]
    dsimp only
    rw [Int.toNat_natCast, e1, Option.bind_some, if_pos rfl, e2, Option.bind_some]
theorem j8_ev (a : Int) (r : Int) (l : List S59) : Ev (fun k => laws_FnStatesHiddenOfAll.j8 k a (dropR r l a).2.2 r l (dropR r l a).1 (dropR r l a).2.1) true := by
  cases c : (dropR r l a).2.2 with
  | false =>
    refine Ev.next ⟨0, fun k _ => ?_⟩ (j9_ev a false r l (fun h => by cases h))
    rw [laws_FnStatesHiddenOfAll.j8, if_neg (by simp)]
  | true =>
    refine Ev.next ⟨0, fun k _ => ?_⟩ (j9_ev a (a == wrap64 ((l.length : Int) - 1)) r l (fun h => ⟨c, ?_⟩))
    · rw [laws_FnStatesHiddenOfAll.j8, if_pos rfl]
    · obtain ⟨_, _, _, h6, _⟩ := drop_facts c
      rw [beq_iff_eq, w64 (by omega) (by omega)] at h
      exact h
theorem j7_ev (a rp : Int) (lp : List S59) (c0 c1 c2 rt : Int) (lt : List S59) :
    Ev (fun k => laws_FnStatesHiddenOfAll.j7 k a (addR rp lp c0 c1 c2).2.2 (dropR rt lt a).2.2 false rp lp c0 c1 c2 rt lt (addR rp lp c0 c1 c2).1 (addR rp lp c0 c1 c2).2.1 (dropR rt lt a).1 (dropR rt lt a).2.1) true := by
  cases c : (addR rp lp c0 c1 c2).2.2 with
  | false =>
    refine Ev.next ⟨0, fun k _ => ?_⟩ (j8_ev a rt lt)
    rw [laws_FnStatesHiddenOfAll.j7, if_neg (by simp), if_neg (by simp)]
  | true =>
    obtain ⟨hp, hc, h6, e⟩ := add_facts c
    obtain ⟨h1, h7, _, hcl⟩ := puzzle_of hp
    have hp' : isPuzzleB rp (lp ++ [⟨c0, c1, c2⟩]) = true := puzzle_mk h1 h7 (by simp; omega) (fun x hx => by
      rcases List.mem_append.1 hx with hx | hx
      · exact hcl x hx
      · rw [List.mem_singleton] at hx
        subst hx
        simp only [isClueB, Bool.and_eq_true] at hc
        exact hc.2)
    have ed : dropR rp (lp ++ [⟨c0, c1, c2⟩]) (lp.length : Int) = (rp, lp, true) := by
      unfold dropR
      have hl : (lp ++ [(⟨c0, c1, c2⟩ : S59)]).length = lp.length + 1 := by simp
      rw [if_pos (by rw [hp', hl, Bool.true_and, w64 (by omega) (by omega)]; exact inB_of (by omega) (by omega)), Int.toNat_natCast, List.eraseIdx_append_of_length_le (Nat.le_refl _)]
      simp
    obtain ⟨K2, e2⟩ := xPuzzle_ev rp lp (by omega)
    refine Ev.next ⟨K2, fun k hk => ?_⟩ (j8_ev a rt lt)
    have e2 := e2 k (by omega)
    simp only at e2
    rw [e, laws_FnStatesHiddenOfAll.j7, if_neg (by simp), if_pos rfl]
    dsimp only
    rw [implDrop_all, ed, Option.bind_some, if_pos rfl]
    dsimp only
    rw [e2, Option.bind_some, if_pos rfl, if_pos (by omega), if_pos (by simp; omega), rd_clue _ lp.length (by simp)]
    simp
theorem j6_ev (a : Int) (x : ByteArray) (n rp : Int) (lp : List S59) (c0 c1 c2 rt : Int) (lt : List S59) (d0 d1 d2 e0 e1 e2 : Int) (hx : x.size ≤ 1048576) (hp : lp.length ≤ 9223372036854775807) (ht : lt.length ≤ 9223372036854775807) :
    Ev (fun k => laws_FnStatesHiddenOfAll.j6 k a x n rp lp c0 c1 c2 rt lt d0 d1 d2 e0 e1 e2) true := by
  obtain ⟨K1, f1⟩ := implAdd_all rp lp c0 c1 c2
  obtain ⟨K2, f2⟩ := specAdd_all rp lp c0 c1 c2 hp
  obtain ⟨K3, f3⟩ := specDrop_all rt lt a ht
  obtain ⟨K4, f4⟩ := implDoes_ev d0 d1 d2 x hx
  obtain ⟨K5, f5⟩ := specDoes_ev d0 d1 d2 x
  obtain ⟨K6, f6⟩ := implIsClue_ev n e0 e1 e2
  obtain ⟨K7, f7⟩ := specIsClue_ev n e0 e1 e2
  obtain ⟨K8, f8⟩ := implIsClue_ev (x.size : Int) d0 d1 d2
  have hA : (addR rp lp c0 c1 c2).2.1.length ≤ 6 := by
    cases c : (addR rp lp c0 c1 c2).2.2
    · unfold addR at c ⊢
      split
      · rename_i h; rw [if_pos h] at c; cases c
      · simp
    · obtain ⟨_, _, h6, e⟩ := add_facts c
      rw [e]; simp; omega
  have hD : (dropR rt lt a).2.1.length ≤ 6 := by
    cases c : (dropR rt lt a).2.2
    · unfold dropR at c ⊢
      split
      · rename_i h; rw [if_pos h] at c; cases c
      · simp
    · obtain ⟨_, _, _, h6, e⟩ := drop_facts c
      rw [e]
      have := List.length_eraseIdx_le lt a.toNat
      dsimp only; omega
  obtain ⟨K9, f9⟩ := xPuzzle_ev (addR rp lp c0 c1 c2).1 (addR rp lp c0 c1 c2).2.1 (by omega)
  obtain ⟨K10, f10⟩ := xPuzzle_ev (dropR rt lt a).1 (dropR rt lt a).2.1 (by omega)
  refine Ev.next ⟨K1 + K2 + K3 + K4 + K5 + K6 + K7 + K8 + K9 + K10, fun k hk => ?_⟩ (j7_ev a rp lp c0 c1 c2 rt lt)
  have f1 := f1 k (by omega)
  have f2 := f2 k (by omega)
  have f3 := f3 k (by omega)
  have f4 := f4 k (by omega)
  have f5 := f5 k (by omega)
  have f6 := f6 k (by omega)
  have f7 := f7 k (by omega)
  have f8 := f8 k (by omega)
  have f9 := f9 k (by omega)
  have f10 := f10 k (by omega)
  simp only at f1 f2 f3 f4 f5 f6 f7 f8 f9 f10
  rw [laws_FnStatesHiddenOfAll.j6, f1, Option.bind_some, f2, Option.bind_some, implDrop_all, Option.bind_some, f3, Option.bind_some, f4, Option.bind_some, f5, Option.bind_some, bne_self_eq_false, if_neg (by simp), f9, Option.bind_some, if_pos rfl, bne_self_eq_false, if_neg (by simp), f10, Option.bind_some, if_pos rfl, bne_self_eq_false, if_neg (by simp), bne_self_eq_false, if_neg (by simp), f6, Option.bind_some, f7, Option.bind_some, bne_self_eq_false, if_neg (by simp)]
  cases c : (doesR d0 d1 d2 x).2 with
  | false => rw [if_neg (by simp)]
  | true =>
    have hcl : isClueB (x.size : Int) d0 d1 d2 = true := by
      unfold doesR at c
      by_cases q : (hiddenB x && clueB x.size d0 d1 d2) = true
      · simp only [Bool.and_eq_true] at q
        obtain ⟨_, h1, h7⟩ := hidden_facts q.1
        simp [isClueB, inB_of (show (1 : Int) ≤ (x.size : Int) by omega) (show (x.size : Int) ≤ 7 by omega), q.2]
      · rw [if_neg q] at c; cases c
    rw [if_pos rfl, f8, Option.bind_some, hcl]
    rfl
theorem j5_ev (a : Int) (x : ByteArray) (n rq : Int) (lq : List S59) (rp : Int) (lp : List S59) (c0 c1 c2 rt : Int) (lt : List S59) (d0 d1 d2 e0 e1 e2 : Int) (hx : x.size ≤ 1048576) (hp : lp.length ≤ 9223372036854775807) (ht : lt.length ≤ 9223372036854775807) :
    Ev (fun k => laws_FnStatesHiddenOfAll.j5 k a x n (hardR rq lq).2.2 false rq lq rp lp c0 c1 c2 rt lt d0 d1 d2 e0 e1 e2 (hardR rq lq).1 (hardR rq lq).2.1) true := by
  have h6 := j6_ev a x n rp lp c0 c1 c2 rt lt d0 d1 d2 e0 e1 e2 hx hp ht
  by_cases c : isPuzzleB rq lq = true ∧ (solB rq lq).length = 1
  · have e : hardR rq lq = (rq, hardL rq lq.length lq 0, true) := by unfold hardR; rw [if_pos c]
    obtain ⟨g1, g2, _⟩ := hard_facts rq lq.length lq 0 c.1 (by omega) c.2 (fun j hj => absurd hj (by omega))
    have s1 : solsR rq lq = (solB rq lq, true) := by unfold solsR; rw [if_pos c.1]
    have s2 : solsR rq (hardL rq lq.length lq 0) = (solB rq lq, true) := by unfold solsR; rw [if_pos g1, g2]
    have hl := hardL_length rq lq.length lq 0
    obtain ⟨K1, f1⟩ := implNeed_ev rq (hardL rq lq.length lq 0)
    rw [need_hard c.1 c.2] at f1
    obtain ⟨K2, f2⟩ := xTexts_ev (solB rq lq) (by omega)
    refine Ev.next ⟨K1 + K2, fun k hk => ?_⟩ h6
    have f1 := f1 k (by omega)
    have f2 := f2 k (by omega)
    simp only at f1 f2
    rw [e, laws_FnStatesHiddenOfAll.j5, if_neg (by simp), if_pos rfl]
    dsimp only
    rw [implSolutions_eq, s1, Option.bind_some, implSolutions_eq, s2, Option.bind_some, f1, Option.bind_some, if_pos rfl, if_pos rfl, f2, Option.bind_some, if_pos rfl, if_pos rfl, if_pos (by simp), if_neg (by omega)]
  · have e : hardR rq lq = (0, [], false) := by unfold hardR; rw [if_neg c]
    refine Ev.next ⟨0, fun k _ => ?_⟩ h6
    rw [e, laws_FnStatesHiddenOfAll.j5, if_neg (by simp), if_neg (by simp)]
theorem j4_ev (a : Int) (x : ByteArray) (n rq : Int) (lq : List S59) (rp : Int) (lp : List S59) (c0 c1 c2 rt : Int) (lt : List S59) (d0 d1 d2 e0 e1 e2 : Int) (hx : x.size ≤ 1048576) (hq : lq.length ≤ 9223372036854775807) (hp : lp.length ≤ 9223372036854775807) (ht : lt.length ≤ 9223372036854775807) :
    Ev (fun k => laws_FnStatesHiddenOfAll.j4 k a x n rq lq rp lp c0 c1 c2 rt lt d0 d1 d2 e0 e1 e2) true := by
  have h5 := j5_ev a x n rq lq rp lp c0 c1 c2 rt lt d0 d1 d2 e0 e1 e2 hx hp ht
  obtain ⟨K1, f1⟩ := implHard_ev rq lq
  obtain ⟨K2, f2⟩ := specHard_all rq lq hq
  have hl : (hardR rq lq).2.1.length ≤ 6 := by
    unfold hardR
    split
    · rename_i h
      have h1 := (puzzle_of h.1).2.2.1
      have := hardL_length rq lq.length lq 0
      dsimp only; omega
    · simp
  obtain ⟨K3, f3⟩ := xPuzzle_ev (hardR rq lq).1 (hardR rq lq).2.1 (by omega)
  refine Ev.next ⟨K1 + K2 + K3, fun k hk => ?_⟩ h5
  have f1 := f1 k (by omega)
  have f2 := f2 k (by omega)
  have f3 := f3 k (by omega)
  simp only at f1 f2 f3
  rw [laws_FnStatesHiddenOfAll.j4, f1, Option.bind_some, f2, Option.bind_some, implIsSolved_eq, Option.bind_some, bne_self_eq_false, if_neg (by simp), f3, Option.bind_some, if_pos rfl]
  cases c : isPuzzleB rq lq with
  | false =>
    have e1 : isSolvedR rq lq = (false, false) := by unfold isSolvedR; rw [c]; rfl
    have e2 : (hardR rq lq).2.2 = false := by unfold hardR; rw [c]; rfl
    rw [e1, if_neg (by simp), e2]
    rfl
  | true =>
    have e1 : isSolvedR rq lq = (decide ((solB rq lq).length = 1), true) := by unfold isSolvedR; rw [c]; rfl
    have e2 : (hardR rq lq).2.2 = decide ((solB rq lq).length = 1) := by
      unfold hardR
      by_cases q : (solB rq lq).length = 1
      · rw [if_pos ⟨c, q⟩, decide_eq_true q]
      · rw [if_neg (fun h => q h.2), decide_eq_false q]
    rw [e1, if_pos rfl, e2, bne_self_eq_false]
theorem moves_mem {s : ByteArray} (h : stateB s = true) (i : Nat) (hi : i < s.size) : decide (((i : Nat) : Int) ∈ movesI s) = canB s (i : Int) := by
  obtain ⟨_, _, h3, h4⟩ := state_facts h
  rw [canB_L s h3 i hi]
  unfold movesI movesL
  cases c : canL s.data.toList i with
  | true =>
    refine decide_eq_true (List.mem_map.2 ⟨i, List.mem_filter.2 ⟨List.mem_range.2 (by omega), c⟩, rfl⟩)
  | false =>
    refine decide_eq_false fun hm => ?_
    obtain ⟨j, hj, e⟩ := List.mem_map.1 hm
    have : j = i := by omega
    rw [this] at hj
    have := (List.mem_filter.1 hj).2
    rw [c] at this
    cases this
theorem does_move {s : ByteArray} (h : hiddenB s = true) (i : Nat) (hi : i < s.size) (b : Bool) (hb : canB s (i : Int) = b) : doesR 4 (i : Int) (if b = true then 1 else 0) s = (true, true) := by
  have hc : clueB s.size 4 (i : Int) (if b = true then 1 else 0) = true := by
    obtain ⟨_, h1, h7⟩ := hidden_facts h
    simp only [clueB]
    rw [if_pos (by simp), w64 (by omega) (by omega)]
    simp only [Bool.and_eq_true]
    exact ⟨inB_of (by omega) (by omega), by cases b <;> decide⟩
  unfold doesR
  rw [if_pos (by rw [h, hc]; rfl)]
  unfold fitsB valB
  rw [if_neg (by decide), if_neg (by decide), if_neg (by decide), if_neg (by decide), if_neg (by decide), hb, beq_self_eq_true]
theorem l0_ev (s : ByteArray) (a : Int) (x : ByteArray) (n rq : Int) (lq : List S59) (rp : Int) (lp : List S59) (c0 c1 c2 rt : Int) (lt : List S59) (d0 d1 d2 e0 e1 e2 : Int) (hs : hiddenB s = true) (hx : x.size ≤ 1048576) (hq : lq.length ≤ 9223372036854775807) (hp : lp.length ≤ 9223372036854775807) (ht : lt.length ≤ 9223372036854775807) : ∀ (d i : Nat), i + d = s.size →
    Ev (fun k => laws_FnStatesHiddenOfAll.l0 k s a x n (movesI s) s (i : Int) rq lq rp lp c0 c1 c2 rt lt d0 d1 d2 e0 e1 e2) true := by
  obtain ⟨hst, h1, h7⟩ := hidden_facts hs
  obtain ⟨_, _, h3, h4⟩ := state_facts hst
  have hs2 : s.size ≤ 1048576 := by omega
  have hml : (movesI s).length ≤ s.size := by
    unfold movesI movesL
    rw [List.length_map]
    exact Nat.le_trans (List.length_filter_le _ _) (by rw [List.length_range]; omega)
  intro d
  induction d with
  | zero =>
    intro i hi
    refine Ev.next ⟨0, fun k _ => ?_⟩ (j4_ev a x n rq lq rp lp c0 c1 c2 rt lt d0 d1 d2 e0 e1 e2 hx hq hp ht)
    rw [laws_FnStatesHiddenOfAll.l0, if_neg (by omega)]
  | succ d ih =>
    intro i hi
    obtain ⟨K1, f1⟩ := xHas_ev (movesI s) (i : Int) (by omega)
    rw [moves_mem hst i (by omega)] at f1
    have ew : wrap64 ((i : Int) + 1) = ((i + 1 : Nat) : Int) := by rw [w64 (by omega) (by omega)]; omega
    have q1 : (i : Int) < (s.size : Int) := by omega
    have q2 : (0 : Int) ≤ (i : Int) := by omega
    have q3 : (i : Int) < 1000000000 := by omega
    have q4 : i < s.size := by omega
    have q5 := ih (i + 1) (by omega)
    have hbt : bt s (i : Int) < 128 := by
      rw [bt_nat s i (by omega)]
      have := List.all_eq_true.1 h3 _ (List.getElem_mem (show i < s.data.toList.length by omega))
      rcases bit_cases this with e | e <;> rw [e] <;> decide
    have f2 := implDoes_ev 4 (i : Int) (if canB s (i : Int) = true then 1 else 0) s hs2
    have e4 := does_move hs i q4 (canB s (i : Int)) rfl
    generalize canB s (i : Int) = cb at f1 f2 e4 ⊢
    rw [e4] at f2
    obtain ⟨K2, f2⟩ := f2
    refine Ev.next ⟨K1 + K2, fun k hk => ?_⟩ q5
    have f1 := f1 k (Nat.le_trans (Nat.le_add_right _ _) hk)
    have f2 := f2 k (Nat.le_trans (Nat.le_add_left _ _) hk)
    simp only at f1 f2
    rw [laws_FnStatesHiddenOfAll.l0, if_pos q1, if_pos q2, if_pos hbt, if_pos q3, f1, Option.bind_some]
    cases cb with
    | true =>
      rw [if_pos rfl] at f2
      rw [if_pos rfl, f2, Option.bind_some, if_pos rfl, if_pos rfl, ew]
    | false =>
      rw [if_neg (by simp)] at f2
      rw [if_neg (by simp), f2, Option.bind_some, if_pos rfl, if_pos rfl, ew]
theorem made_facts {s : ByteArray} {a b : Int} (h : (makeR s a b).2.2 = true) : hiddenB s = true ∧ 0 ≤ a ∧ a ≤ 6 ∧ makeR s a b = ((s.size : Int), makeL s a.toNat b.toNat [], true) := by
  unfold makeR at h ⊢
  by_cases c : (hiddenB s && inB a 0 6 && inB b 0 9999) = true
  · rw [if_pos c]
    simp only [Bool.and_eq_true] at c
    exact ⟨c.1.1, inB_lo c.1.2, inB_hi c.1.2, rfl⟩
  · rw [if_neg c] at h; cases h
theorem does_num {s : ByteArray} (h : hiddenB s = true) : doesR 3 0 (grN s.data.toList : Int) s = (true, true) := by
  obtain ⟨hst, h1, h7⟩ := hidden_facts h
  obtain ⟨g1, g2⟩ := grN_small h7 hst
  have hp := two7 h7
  have hc : clueB s.size 3 0 (grN s.data.toList : Int) = true := by
    simp only [clueB]
    rw [if_neg (by simp), if_neg (by simp), if_neg (by simp), if_pos (by simp), shl7 h1 h7]
    simp only [Bool.and_eq_true]
    refine ⟨?_, inB_of (by omega) (by omega)⟩
    have hp0 : 0 < 2 ^ s.size := Nat.pow_pos (by omega)
    generalize 2 ^ s.size = q at hp hp0 ⊢
    rw [w64 (by omega) (by omega)]
    exact inB_of (by omega) (by omega)
  unfold doesR
  rw [if_pos (by rw [h, hc]; rfl)]
  unfold fitsB valB
  rw [if_neg (by decide), if_neg (by decide), if_neg (by decide), if_neg (by decide), if_pos (by decide), numB_grN h7 hst]
  congr 1
  rw [beq_iff_eq]
  split <;> omega
theorem does_on {s : ByteArray} (h : hiddenB s = true) : doesR 1 (onN s : Int) 0 s = (true, true) := by
  have hle := onN_le s
  have hc : clueB s.size 1 (onN s : Int) 0 = true := by
    simp only [clueB]
    rw [if_neg (by simp), if_pos (by simp)]
    simp only [Bool.and_eq_true]
    exact ⟨inB_of (by omega) (by omega), by simp⟩
  unfold doesR
  rw [if_pos (by rw [h, hc]; rfl)]
  unfold fitsB valB
  rw [if_pos (by decide), if_neg (by decide), if_pos (by decide), beq_self_eq_true]
theorem j1_ev (s : ByteArray) (a1 a2 a : Int) (x : ByteArray) (n rq : Int) (lq : List S59) (rp : Int) (lp : List S59) (c0 c1 c2 rt : Int) (lt : List S59) (d0 d1 d2 e0 e1 e2 : Int) (hx : x.size ≤ 1048576) (hq : lq.length ≤ 9223372036854775807) (hp : lp.length ≤ 9223372036854775807) (ht : lt.length ≤ 9223372036854775807) :
    Ev (fun k => laws_FnStatesHiddenOfAll.j1 k s a1 a x n (makeR s a1 a2).2.2 false rq lq rp lp c0 c1 c2 rt lt d0 d1 d2 e0 e1 e2 (makeR s a1 a2).1 (makeR s a1 a2).2.1) true := by
  cases c : (makeR s a1 a2).2.2 with
  | false =>
    refine Ev.next ⟨0, fun k _ => ?_⟩ (j4_ev a x n rq lq rp lp c0 c1 c2 rt lt d0 d1 d2 e0 e1 e2 hx hq hp ht)
    rw [laws_FnStatesHiddenOfAll.j1, if_neg (by simp), if_neg (by simp)]
  | true =>
    obtain ⟨hs, h0, h6, e⟩ := made_facts c
    obtain ⟨hst, h1, h7⟩ := hidden_facts hs
    obtain ⟨g1, g2⟩ := made_ok hs a1.toNat a2.toNat (by omega)
    have hlen := makeL_length s a1.toNat a2.toNat []
    rw [e]
    dsimp only
    have hmem := solB_self hs (makeL s a1.toNat a2.toNat []) g2
    generalize makeL s a1.toNat a2.toNat [] = m at g1 g2 hlen hmem ⊢
    have s1 : solsR (s.size : Int) m = (solB (s.size : Int) m, true) := by unfold solsR; rw [if_pos g1]
    have hsl := solB_length (s.size : Int) m
    have hp7 := two7 h7
    rw [Int.toNat_natCast] at hsl
    obtain ⟨K1, f1⟩ := number_ev hst
    obtain ⟨K2, f2⟩ := implDoes_ev 3 0 (grN s.data.toList : Int) s (by omega)
    rw [does_num hs] at f2
    obtain ⟨K3, f3⟩ := implDoes_ev 1 (onN s : Int) 0 s (by omega)
    rw [does_on hs] at f3
    obtain ⟨K4, f4⟩ := implMoves_ev s (by omega)
    have em : movesR s = (movesI s, true) := by unfold movesR; rw [if_pos hst]
    rw [em] at f4
    obtain ⟨K5, f5⟩ := xText_ev (solB (s.size : Int) m) s (by omega)
    rw [decide_eq_true hmem] at f5
    obtain ⟨K6, f6⟩ := l0_ev s a x n rq lq rp lp c0 c1 c2 rt lt d0 d1 d2 e0 e1 e2 hs hx hq hp ht s.size 0 (by omega)
    refine ⟨K1 + K2 + K3 + K4 + K5 + K6 + 2, fun k hk => ?_⟩
    obtain ⟨k, rfl⟩ : ∃ z, k = z + 2 := ⟨k - 2, by omega⟩
    have f1 := f1 (k + 1) (by omega)
    have f2 := f2 (k + 1) (by omega)
    have f3 := f3 (k + 1) (by omega)
    have f4 := f4 (k + 1) (by omega)
    have f5 := f5 (k + 1) (by omega)
    have f6 := f6 k (by omega)
    simp only at f1 f2 f3 f4 f5 f6
    have fN : impl_NumberOfState.f (k + 1) s = some ((grN s.data.toList : Int), true) := by
      rw [impl_NumberOfState.f, isState_eq s (by omega), hst, Option.bind_some, if_pos rfl, f1, Option.bind_some]
    dsimp only
    rw [laws_FnStatesHiddenOfAll.j1, if_neg (by simp), if_pos rfl, implSolutions_eq, s1, Option.bind_some, fN, Option.bind_some]
    dsimp only
    rw [f2, Option.bind_some, countOn_eq s (by omega) hst, Option.bind_some]
    dsimp only
    rw [f3, Option.bind_some, f4, Option.bind_some, impl_IsPuzzle.f, g1, Option.bind_some, if_pos rfl, if_pos (by simp at hlen; omega), if_pos rfl, f5, Option.bind_some, if_pos rfl, if_pos rfl, if_pos rfl, if_pos rfl, if_pos rfl, if_pos rfl, if_pos rfl]
    dsimp only
    rw [laws_FnStatesHiddenOfAll.j2, if_neg (by simp)]
    exact f6
theorem FnStatesHiddenOfAll_pure (a0 : ByteArray) (a1 : Int) (a2 : Int) (a3_0 : Int) (l3_1 : List S59) (a4_0 : Int) (l4_1 : List S59) (a5_0 : Int) (a5_1 : Int) (a5_2 : Int) (a6_0 : Int) (l6_1 : List S59) (a7 : Int) (a8_0 : Int) (a8_1 : Int) (a8_2 : Int) (a9 : ByteArray) (a10 : Int) (a11_0 : Int) (a11_1 : Int) (a11_2 : Int) (y3_1 : l3_1.length ≤ 9223372036854775807) (y4_1 : l4_1.length ≤ 9223372036854775807) (y6_1 : l6_1.length ≤ 9223372036854775807) (o0 : a0.size ≤ maxLen) (o1 : (Lit.int .i64 a1).wf = true) (o2 : (Lit.int .i64 a2).wf = true) (o3_0 : (Lit.int .i64 a3_0).wf = true) (o3_1 : (∀ a ∈ l3_1, ((Lit.int .i64 a.f0).wf = true ∧ (Lit.int .i64 a.f1).wf = true ∧ (Lit.int .i64 a.f2).wf = true))) (o4_0 : (Lit.int .i64 a4_0).wf = true) (o4_1 : (∀ a ∈ l4_1, ((Lit.int .i64 a.f0).wf = true ∧ (Lit.int .i64 a.f1).wf = true ∧ (Lit.int .i64 a.f2).wf = true))) (o5_0 : (Lit.int .i64 a5_0).wf = true) (o5_1 : (Lit.int .i64 a5_1).wf = true) (o5_2 : (Lit.int .i64 a5_2).wf = true) (o6_0 : (Lit.int .i64 a6_0).wf = true) (o6_1 : (∀ a ∈ l6_1, ((Lit.int .i64 a.f0).wf = true ∧ (Lit.int .i64 a.f1).wf = true ∧ (Lit.int .i64 a.f2).wf = true))) (o7 : (Lit.int .i64 a7).wf = true) (o8_0 : (Lit.int .i64 a8_0).wf = true) (o8_1 : (Lit.int .i64 a8_1).wf = true) (o8_2 : (Lit.int .i64 a8_2).wf = true) (o9 : a9.size ≤ maxLen) (o10 : (Lit.int .i64 a10).wf = true) (o11_0 : (Lit.int .i64 a11_0).wf = true) (o11_1 : (Lit.int .i64 a11_1).wf = true) (o11_2 : (Lit.int .i64 a11_2).wf = true) : ∃ k, laws_FnStatesHiddenOfAll.f k a0 a1 a2 a3_0 l3_1 a4_0 l4_1 a5_0 a5_1 a5_2 a6_0 l6_1 a7 a8_0 a8_1 a8_2 a9 a10 a11_0 a11_1 a11_2 = some true := by
  by_cases h0 : (a0.size : Int) > 1048576
  · exact ⟨1, by rw [laws_FnStatesHiddenOfAll.f, if_pos h0, laws_FnStatesHiddenOfAll.j0, if_pos rfl]⟩
  · by_cases h9 : (a9.size : Int) > 1048576
    · exact ⟨1, by rw [laws_FnStatesHiddenOfAll.f, if_neg h0, decide_eq_true h9, laws_FnStatesHiddenOfAll.j0, if_pos rfl]⟩
    · obtain ⟨K1, f1⟩ := j1_ev a0 a1 a2 a7 a9 a10 a3_0 l3_1 a4_0 l4_1 a5_0 a5_1 a5_2 a6_0 l6_1 a8_0 a8_1 a8_2 a11_0 a11_1 a11_2 (by omega) y3_1 y4_1 y6_1
      obtain ⟨K2, f2⟩ := specMake_ev a0 a1 a2
      have hm := makeR_length a0 a1 a2
      obtain ⟨K3, f3⟩ := xPuzzle_ev (makeR a0 a1 a2).1 (makeR a0 a1 a2).2.1 (by omega)
      refine ⟨K1 + K2 + K3 + 1, ?_⟩
      have f1 := f1 (K1 + K2 + K3) (by omega)
      have f2 := f2 (K1 + K2 + K3) (by omega)
      have f3 := f3 (K1 + K2 + K3) (by omega)
      simp only at f1 f2 f3
      rw [laws_FnStatesHiddenOfAll.f, if_neg h0, decide_eq_false h9, laws_FnStatesHiddenOfAll.j0, if_neg (by simp), implMake_eq a0 a1 a2 (by omega), Option.bind_some, f2, Option.bind_some, bne_self_eq_false, if_neg (by simp), f3, Option.bind_some]
      exact f1
end Go.Proofs.YtcogjabdddikjaaDoor.Pure
