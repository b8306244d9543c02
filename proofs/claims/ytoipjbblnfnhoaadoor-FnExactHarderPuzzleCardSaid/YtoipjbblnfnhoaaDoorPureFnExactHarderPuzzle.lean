/- The program's HarderPuzzle and the reference's answer alike for every puzzle. No condition. -/
import Derived.Test.YtoipjbblnfnhoaaDoorPHarderPuzzlez
namespace Go.Proofs.YtoipjbblnfnhoaaDoor.Pure
open Go.RowKit Go.Proofs.YtoipjbblnfnhoaaDoor.PHarderPuzzle Go.Proofs.YtoipjbblnfnhoaaDoorW.PrintWords Go.Proofs.YtoipjbblnfnhoaaDoorW.PrintLast Go.Proofs.YtoipjbblnfnhoaaDoorW.PrintMore
set_option linter.unusedVariables false
set_option linter.unusedSimpArgs false
set_option maxHeartbeats 1000000 in
theorem FnExactHarderPuzzle_pure (a0_0 : Int) (l0_1 : List S23) (y0_1 : l0_1.length ≤ 9223372036854775807) (o0_0 : (Lit.int .i64 a0_0).wf = true) (o0_1 : (∀ a ∈ l0_1, ((Lit.int .i64 a.f0).wf = true ∧ (Lit.int .i64 a.f1).wf = true ∧ (Lit.int .i64 a.f2).wf = true))) : ∃ k, laws_FnExactHarderPuzzle.f k a0_0 l0_1 = some true := by
  by_cases hs : (1048576 : Int) < l0_1.length
  · exact ⟨0, by simp [laws_FnExactHarderPuzzle.f, szPuzzle_eq a0_0 l0_1 y0_1, hs]⟩
  · have hn : ¬ (1048576 : Int) - l0_1.length < 0 := by omega
    have f1 := toPuzzle_ev a0_0 l0_1 (by omega)
    have hx : (toClues l0_1).length ≤ 1048576 := by rw [toClues_length]; omega
    generalize toClues l0_1 = x at f1 hx
    have i1 := implHard_ev a0_0 x
    have i2 := specHard_ev a0_0 x hx
    have hl : (hardR a0_0 x).2.1.length ≤ 1048576 := by
      unfold hardR
      split
      · exact Nat.le_trans (hardL_length _ _ _ _) hx
      · simp
    generalize hardR a0_0 x = R at i1 i2 hl
    obtain ⟨g, l, b⟩ := R
    simp only at hl
    have n5 : ¬ (1 + 3 * (x.length : Int)) < 0 := by omega
    have n7 : ¬ (1 + 3 * (l.length : Int)) < 0 := by omega
    have f2 := i2
    have f3 := eqPuzzle_ev a0_0 x (by omega)
    have f4 := eqPuzzle_ev g l (by omega)
    have f5 := markPuzzle_ev a0_0 x (by omega)
    have f6 := markPuzzle_ev g l (by omega)
    have f7 := heldPuzzle_ev g l.length (by omega)
    have f8 := i1
    obtain ⟨K1, h1⟩ := f1
    obtain ⟨K2, h2⟩ := f2
    obtain ⟨K3, h3⟩ := f3
    obtain ⟨K4, h4⟩ := f4
    obtain ⟨K5, h5⟩ := f5
    obtain ⟨K6, h6⟩ := f6
    obtain ⟨K7, h7⟩ := f7
    obtain ⟨K8, h8⟩ := f8
    have h1 := h1 (K1 + K2 + K3 + K4 + K5 + K6 + K7 + K8) (by omega)
    have h2 := h2 (K1 + K2 + K3 + K4 + K5 + K6 + K7 + K8) (by omega)
    have h3 := h3 (K1 + K2 + K3 + K4 + K5 + K6 + K7 + K8) (by omega)
    have h4 := h4 (K1 + K2 + K3 + K4 + K5 + K6 + K7 + K8) (by omega)
    have h5 := h5 (K1 + K2 + K3 + K4 + K5 + K6 + K7 + K8) (by omega)
    have h6 := h6 (K1 + K2 + K3 + K4 + K5 + K6 + K7 + K8) (by omega)
    have h7 := h7 (K1 + K2 + K3 + K4 + K5 + K6 + K7 + K8) (by omega)
    have h8 := h8 (K1 + K2 + K3 + K4 + K5 + K6 + K7 + K8) (by omega)
    simp only at h1 h2 h3 h4 h5 h6 h7 h8
    refine ⟨K1 + K2 + K3 + K4 + K5 + K6 + K7 + K8, ?_⟩
    simp [laws_FnExactHarderPuzzle.f, szPuzzle_eq a0_0 l0_1 y0_1, hs, hn, h1, h2, h3, h4, h5, h6, h7, h8, n5, n7]
end Go.Proofs.YtoipjbblnfnhoaaDoor.Pure
