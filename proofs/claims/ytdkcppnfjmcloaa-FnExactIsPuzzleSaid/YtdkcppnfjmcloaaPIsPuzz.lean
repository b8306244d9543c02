/- What the printed functions answer, function by function: plain statements, without memory. (wip/after) -/
import Derived.Test.YtdkcppnfjmcloaaPIsPuzx
import Derived.Test.YtdkcppnfjmcloaaEv
namespace Go.Proofs.Ytdkcppnfjmcloaa.PIsPuz
open Go.RowKit Go.Proofs.YtdkcppnfjmcloaaW.PrintWords Go.Proofs.YtdkcppnfjmcloaaW.PrintLast Go.Proofs.YtdkcppnfjmcloaaW.PrintMore
set_option linter.unusedVariables false
set_option linter.unusedSimpArgs false
/-! ### after laws_szClueS -/
theorem laws_szClueS.eq (l : List S23) (a : Int) (h0 : 0 ≤ a) (h1 : a ≤ 1048576) (hl : l.length ≤ 9223372036854775807) : laws_szClueS.f l a = some (if a < l.length then -1 else a - l.length) := by
  unfold laws_szClueS.f
  rw [w64 (by omega) (by omega)]
  by_cases h : a < l.length
  · rw [if_pos (by omega), if_pos h]
  · rw [if_neg (by omega), if_neg h]


/-! ### after spec_pzGood -/
theorem pzGood_ev (r : Int) (l : List S25) (hl : l.length ≤ 9223372036854775807) : Ev (fun k => spec_pzGood.f k r l) (isPuzzleB r l) := by
  have hj : ∀ b : Bool, 0 ≤ r → Ev (fun k => spec_pzGood.j0 k b r l) (if b = true then false else !(l.any fun x => !clueB r x.f0 x.f1 x.f2)) := by
    intro b hr
    cases b
    · refine Ev.next (f := fun k => spec_pzGood.l0 k l (l.length : Int) 0 r l) ⟨0, fun k _ => by rw [spec_pzGood.j0]; simp⟩ ?_
      have := any_ev (fun k i => spec_pzGood.l0 k l (l.length : Int) i r l) l (fun x => !clueB r x.f0 x.f1 x.f2) false true (fun i h => ⟨1, fun k hk => by
        obtain ⟨k, rfl⟩ : ∃ m, k = m + 1 := ⟨k - 1, by omega⟩
        have e : rd_T25 l (i : Int) = l[i] := by simp [rd_T25, h]
        have ew : wrap64 ((i : Int) + 1) = ((i + 1 : Nat) : Int) := by rw [w64 (by omega) (by omega)]; omega
        rw [spec_pzGood.l0, if_pos (by omega), if_pos (by omega), if_pos (by omega), pzClue_eq _ _ _ _ _ hr, e, ew]
        simp only [Option.bind_some]
        cases clueB r l[i].f0 l[i].f1 l[i].f2 <;> simp⟩) (fun k => by rw [spec_pzGood.l0, if_neg (by omega)])
      cases h : l.any fun x => !clueB r x.f0 x.f1 x.f2 <;> simpa [h] using this
    · refine Ev.last fun k => ?_
      rw [spec_pzGood.j0]; simp
  have e1 : ∀ k, spec_pzGood.f k r l = if inB r 1 7 = true then spec_pzGood.j0 k (decide ((l.length : Int) > 6)) r l else spec_pzGood.j0 k true r l := by
    intro k
    simp only [spec_pzGood.f, spec_pzRings.f, spec_l1In.f, inB_ite, Option.bind_some]
  refine Ev.congr e1 ?_
  unfold isPuzzleB
  cases h : inB r 1 7
  · simp only [Bool.false_and, Bool.false_eq_true, if_false]
    refine Ev.last fun k => ?_
    rw [spec_pzGood.j0]; simp
  · simp only [if_true]
    have hr := inB_lo h
    have := hj (decide ((l.length : Int) > 6)) (by omega)
    have hc : (l.any fun x => !isClueB r x.f0 x.f1 x.f2) = l.any fun x => !clueB r x.f0 x.f1 x.f2 := by simp [isClueB, h]
    rw [hc]
    by_cases h6 : l.length ≤ 6
    · have hd : decide ((l.length : Int) > 6) = false := decide_eq_false (by omega)
      rw [hd] at this ⊢
      simpa [h6] using this
    · have hd : decide ((l.length : Int) > 6) = true := decide_eq_true (by omega)
      rw [hd] at this ⊢
      simpa [h6] using this

/-! ### after laws_toClueS -/
theorem laws_toClueS.ev (l : List S23) (hl : l.length ≤ 1048576) : Ev (fun k => laws_toClueS.f k l) (l.map (fun x : S23 => (⟨x.f0, x.f1, x.f2⟩ : S25))) := by
  have h1 : 0 ≤ (l.length : Int) := by omega
  have h2 : (l.length : Int).toNat ≤ 11728124029610 := by omega
  unfold laws_toClueS.f
  simp only [if_pos h1, if_pos h2]
  refine to_ev laws_toClueS.l0 (fun x : S23 => (⟨x.f0, x.f1, x.f2⟩ : S25)) ?_ ?_ l _ (by simp) (by omega)
  · intro l acc i h hc hl
    refine ⟨0, fun k _ => ?_⟩
    have e : rd_T23 l (i : Int) = l[i] := by simp [rd_T23, h]
    have ew : wrap64 ((i : Int) + 1) = ((i + 1 : Nat) : Int) := by rw [w64 (by omega) (by omega)]; omega
    rw [laws_toClueS.l0, if_pos (by omega), if_pos (by omega)]
    simp only [laws_toClue.f, Option.bind_some, e, ew, Int.toNat_natCast]
    rw [if_pos (by omega)]
  · intro k l acc
    rw [laws_toClueS.l0, if_neg (by omega)]


/-! ### after laws_eqClueS -/
theorem laws_eqClueS.ev (l : List S25) (hl : l.length ≤ 9223372036854775807) : Ev (fun k => laws_eqClueS.f k l l) true := by
  unfold laws_eqClueS.f
  refine Ev.congr (f := fun k => laws_eqClueS.l0 k l l 0) (fun k => if_pos rfl) ?_
  refine eq_ev laws_eqClueS.l0 ?_ ?_ l hl
  · intro l i h hl
    refine ⟨0, fun k _ => ?_⟩
    have ew : wrap64 ((i : Int) + 1) = ((i + 1 : Nat) : Int) := by rw [w64 (by omega) (by omega)]; omega
    rw [laws_eqClueS.l0, if_pos (by omega), if_pos (by omega), if_pos (by omega)]
    simp [laws_eqClue.f, ew]
  · intro k l
    rw [laws_eqClueS.l0, if_neg (by omega)]


end Go.Proofs.Ytdkcppnfjmcloaa.PIsPuz
