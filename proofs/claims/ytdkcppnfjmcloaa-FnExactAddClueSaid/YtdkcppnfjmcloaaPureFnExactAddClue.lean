/- The program's AddClue and the reference's answer alike for every puzzle and clue, and what is handed back is new. No condition. -/
import Derived.Test.YtdkcppnfjmcloaaPAddCluez
namespace Go.Proofs.Ytdkcppnfjmcloaa.Pure
open Go.RowKit Go.Proofs.Ytdkcppnfjmcloaa.PAddClue Go.Proofs.YtdkcppnfjmcloaaW.PrintWords Go.Proofs.YtdkcppnfjmcloaaW.PrintLast Go.Proofs.YtdkcppnfjmcloaaW.PrintMore
set_option linter.unusedVariables false
set_option linter.unusedSimpArgs false
theorem FnExactAddClue_pure (a0_0 : Int) (l0_1 : List S23) (a1_0 a1_1 a1_2 : Int) (y0_1 : l0_1.length ≤ 9223372036854775807) (o0_0 : (Lit.int .i64 a0_0).wf = true) (o0_1 : (∀ a ∈ l0_1, ((Lit.int .i64 a.f0).wf = true ∧ (Lit.int .i64 a.f1).wf = true ∧ (Lit.int .i64 a.f2).wf = true))) (o1_0 : (Lit.int .i64 a1_0).wf = true) (o1_1 : (Lit.int .i64 a1_1).wf = true) (o1_2 : (Lit.int .i64 a1_2).wf = true) : ∃ k, laws_FnExactAddClue.f k a0_0 l0_1 a1_0 a1_1 a1_2 = some true := by
  by_cases hs : (1048576 : Int) < l0_1.length
  · exact ⟨0, by simp [laws_FnExactAddClue.f, szPuzzle_eq a0_0 l0_1 y0_1, hs]⟩
  · have hn : ¬ (1048576 : Int) - l0_1.length < 0 := by omega
    obtain ⟨K1, h1⟩ := toPuzzle_ev a0_0 l0_1 (by omega)
    have hx : (toClues l0_1).length ≤ 1048576 := by rw [toClues_length]; omega
    generalize toClues l0_1 = x at h1 hx
    obtain ⟨K2, h2⟩ := specAddClue_ev a0_0 x a1_0 a1_1 a1_2 hx
    obtain ⟨K8, h8⟩ := implAddClue_ev a0_0 x a1_0 a1_1 a1_2 hx
    have hR : (if (isPuzzleB a0_0 x && isClueB a0_0 a1_0 a1_1 a1_2 && decide (x.length < 6)) = true then (a0_0, x ++ [⟨a1_0, a1_1, a1_2⟩], true) else (0, [], false)).2.1.length ≤ 1048577 := by
      split
      · simp; omega
      · simp
    generalize (if (isPuzzleB a0_0 x && isClueB a0_0 a1_0 a1_1 a1_2 && decide (x.length < 6)) = true then (a0_0, x ++ [⟨a1_0, a1_1, a1_2⟩], true) else (0, [], false)) = R at h2 h8 hR
    obtain ⟨g, l, b⟩ := R
    simp only at hR
    obtain ⟨K3, h3⟩ := eqPuzzle_ev g l (by omega)
    obtain ⟨K4, h4⟩ := eqPuzzle_ev a0_0 x (by omega)
    obtain ⟨K5, h5⟩ := markPuzzle_ev a0_0 x (by omega)
    obtain ⟨K6, h6⟩ := markPuzzle_ev g l (by omega)
    obtain ⟨K7, h7⟩ := heldPuzzle_ev g l.length (by omega)
    obtain ⟨K, e1, e2, e3, e4, e5, e6, e7, e8⟩ : ∃ K, K1 ≤ K ∧ K2 ≤ K ∧ K3 ≤ K ∧ K4 ≤ K ∧ K5 ≤ K ∧ K6 ≤ K ∧ K7 ≤ K ∧ K8 ≤ K := ⟨K1 + K2 + K3 + K4 + K5 + K6 + K7 + K8, by omega, by omega, by omega, by omega, by omega, by omega, by omega, by omega⟩
    have n5 : ¬ (1 + 3 * (x.length : Int)) < 0 := by omega
    have n7 : ¬ (1 + 3 * (l.length : Int)) < 0 := by omega
    refine ⟨K, ?_⟩
    simp [laws_FnExactAddClue.f, szPuzzle_eq a0_0 l0_1 y0_1, hs, hn, h1 K e1, h2 K e2, h8 K e8, laws_toClue.f, h3 K e3, h4 K e4, h5 K e5, h6 K e6, h7 K e7, n5, n7]
end Go.Proofs.Ytdkcppnfjmcloaa.Pure
