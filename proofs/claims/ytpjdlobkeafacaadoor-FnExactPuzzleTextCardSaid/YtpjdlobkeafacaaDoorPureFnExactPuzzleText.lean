/- The program's PuzzleText and the reference's answer alike for every puzzle. No condition. -/
import Derived.Test.YtpjdlobkeafacaaDoorPPuzzleTextz
namespace Go.Proofs.YtpjdlobkeafacaaDoor.Pure
open Go.RowKit Go.Proofs.YtpjdlobkeafacaaDoor.PPuzzleText Go.Proofs.YtpjdlobkeafacaaDoorW.PrintWords Go.Proofs.YtpjdlobkeafacaaDoorW.PrintLast Go.Proofs.YtpjdlobkeafacaaDoorW.PrintMore
set_option linter.unusedVariables false
set_option linter.unusedSimpArgs false
set_option maxHeartbeats 1000000 in
theorem FnExactPuzzleText_pure (a0_0 : Int) (l0_1 : List S104) (y0_1 : l0_1.length ≤ 9223372036854775807) (o0_0 : (Lit.int .i64 a0_0).wf = true) (o0_1 : (∀ a ∈ l0_1, ((Lit.int .i64 a.f0).wf = true ∧ (Lit.int .i64 a.f1).wf = true ∧ (Lit.int .i64 a.f2).wf = true))) : ∃ k, laws_FnExactPuzzleText.f k a0_0 l0_1 = some true := by
  by_cases hs : (1048576 : Int) < l0_1.length
  · exact ⟨0, by simp [laws_FnExactPuzzleText.f, szPuzzle_eq a0_0 l0_1 y0_1, hs]⟩
  · have hn : ¬ (1048576 : Int) - l0_1.length < 0 := by omega
    have f1 := toPuzzle_ev a0_0 l0_1 (by omega)
    have hx : (toClues l0_1).length ≤ 1048576 := by rw [toClues_length]; omega
    generalize toClues l0_1 = x at f1 hx
    obtain ⟨K4, i1⟩ := implText_ev a0_0 x
    have i2 := specText_ev a0_0 x hx
    generalize textR a0_0 x = R at i1 i2
    obtain ⟨g, b⟩ := R
    have f2 := i2
    have f3 := eqPuzzle_ev a0_0 x (by omega)
    obtain ⟨K1, h1⟩ := f1
    obtain ⟨K2, h2⟩ := f2
    obtain ⟨K3, h3⟩ := f3
    have h1 := h1 (K1 + K2 + K3 + K4) (by omega)
    have h2 := h2 (K1 + K2 + K3 + K4) (by omega)
    have h3 := h3 (K1 + K2 + K3 + K4) (by omega)
    have i1 := i1 (K1 + K2 + K3 + K4) (by omega)
    simp only at h1 h2 h3 i1
    refine ⟨K1 + K2 + K3 + K4, ?_⟩
    simp [laws_FnExactPuzzleText.f, szPuzzle_eq a0_0 l0_1 y0_1, hs, hn, h1, h2, h3, i1]
end Go.Proofs.YtpjdlobkeafacaaDoor.Pure
