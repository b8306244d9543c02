/- The program's CountSolutions and the reference's answer alike for every puzzle. No condition. -/
import Derived.Test.YtoipjbblnfnhoaaDoorPCountSolutionsz
namespace Go.Proofs.YtoipjbblnfnhoaaDoor.Pure
open Go.RowKit Go.Proofs.YtoipjbblnfnhoaaDoor.PCountSolutions Go.Proofs.YtoipjbblnfnhoaaDoorW.PrintWords Go.Proofs.YtoipjbblnfnhoaaDoorW.PrintLast Go.Proofs.YtoipjbblnfnhoaaDoorW.PrintMore
set_option linter.unusedVariables false
set_option linter.unusedSimpArgs false
theorem FnExactCountSolutions_pure (a0_0 : Int) (l0_1 : List S23) (y0_1 : l0_1.length ≤ 9223372036854775807) (o0_0 : (Lit.int .i64 a0_0).wf = true) (o0_1 : (∀ a ∈ l0_1, ((Lit.int .i64 a.f0).wf = true ∧ (Lit.int .i64 a.f1).wf = true ∧ (Lit.int .i64 a.f2).wf = true))) : ∃ k, laws_FnExactCountSolutions.f k a0_0 l0_1 = some true := by
  by_cases hs : (1048576 : Int) < l0_1.length
  · exact ⟨0, by simp [laws_FnExactCountSolutions.f, szPuzzle_eq a0_0 l0_1 y0_1, hs]⟩
  · have hn : ¬ (1048576 : Int) - l0_1.length < 0 := by omega
    obtain ⟨K1, h1⟩ := toPuzzle_ev a0_0 l0_1 (by omega)
    have hx : (toClues l0_1).length ≤ 1048576 := by rw [toClues_length]; omega
    generalize toClues l0_1 = x at h1 hx
    obtain ⟨K2, h2⟩ := pzGood_ev a0_0 x (by omega)
    obtain ⟨K4, h4⟩ := eqPuzzle_ev a0_0 x (by omega)
    have h5 : impl_IsPuzzle.f a0_0 x = some (isPuzzleB a0_0 x) := rfl
    cases hp : isPuzzleB a0_0 x
    · rw [hp] at h2 h5
      obtain ⟨K, e1, e2, e4⟩ : ∃ K, K1 ≤ K ∧ K2 ≤ K ∧ K4 ≤ K := ⟨K1 + K2 + K4, by omega, by omega, by omega⟩
      have h1 := h1 K e1
      have h2 := h2 K e2
      have h4 := h4 K e4
      simp only at h1 h2 h4
      exact ⟨K, by simp [laws_FnExactCountSolutions.f, szPuzzle_eq a0_0 l0_1 y0_1, hs, hn, h1, spec_CountSolutions.f, impl_CountSolutions.f, h2, h4, h5]⟩
    · rw [hp] at h2 h5
      obtain ⟨K3, h3⟩ := pzAll_ev a0_0 x hp
      have h6 := solutions_eq a0_0 x hp
      obtain ⟨K, e1, e2, e3, e4⟩ : ∃ K, K1 ≤ K ∧ K2 ≤ K ∧ K3 ≤ K ∧ K4 ≤ K := ⟨K1 + K2 + K3 + K4, by omega, by omega, by omega, by omega⟩
      have h1 := h1 K e1
      have h2 := h2 K e2
      have h3 := h3 K e3
      have h4 := h4 K e4
      simp only at h1 h2 h3 h4
      exact ⟨K, by simp [laws_FnExactCountSolutions.f, szPuzzle_eq a0_0 l0_1 y0_1, hs, hn, h1, spec_CountSolutions.f, impl_CountSolutions.f, h2, h3, h4, h5, h6]⟩
end Go.Proofs.YtoipjbblnfnhoaaDoor.Pure
