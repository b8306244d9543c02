/- The program's CountingLamps and the reference's answer alike for every number. No condition. (1 to 10: by reckoning.) -/
import Derived.Test.YtdkcppnfjmcloaaPCountingLampsz
import Derived.KernelRfl
namespace Go.Proofs.Ytdkcppnfjmcloaa.Pure
open Go.RowKit Go.Proofs.Ytdkcppnfjmcloaa.PCountingLamps Go.Proofs.YtdkcppnfjmcloaaW.PrintWords Go.Proofs.YtdkcppnfjmcloaaW.PrintLast Go.Proofs.YtdkcppnfjmcloaaW.PrintMore
set_option linter.unusedVariables false
set_option linter.unusedSimpArgs false
theorem ev0 : ∃ k, laws_FnExactCountingLamps.f k 0 = some true := ⟨60, by decide +kernel⟩
theorem FnExactCountingLamps_pure (a0 : Int) (o0 : (Lit.int .i64 a0).wf = true) : ∃ k, laws_FnExactCountingLamps.f k a0 = some true := by
  by_cases h : 1 ≤ a0 ∧ a0 ≤ 10
  · have hc : a0 = 1 ∨ a0 = 2 ∨ a0 = 3 ∨ a0 = 4 ∨ a0 = 5 ∨ a0 = 6 ∨ a0 = 7 ∨ a0 = 8 ∨ a0 = 9 ∨ a0 = 10 := by omega
    rcases hc with rfl | rfl | rfl | rfl | rfl | rfl | rfl | rfl | rfl | rfl
    all_goals exact ⟨60, by decide +kernel⟩
  · have hi : inB a0 1 10 = false := by simp only [inB, Bool.and_eq_false_iff, decide_eq_false_iff_not]; omega
    obtain ⟨k, hk⟩ := ev0
    have hi0 : inB 0 1 10 = false := by decide
    refine ⟨k, ?_⟩
    have e1 : spec_CountingLamps.f k a0 = spec_CountingLamps.f k 0 := by simp [spec_CountingLamps.f, spec_laCount.f, spec_l1In.f, inB_ite, hi, hi0]
    have e2 : impl_CountingLamps.f k a0 = impl_CountingLamps.f k 0 := by simp [impl_CountingLamps.f, impl_in.f, inB_ite, hi, hi0]
    rw [← hk]
    simp only [laws_FnExactCountingLamps.f, e1, e2]
end Go.Proofs.Ytdkcppnfjmcloaa.Pure
