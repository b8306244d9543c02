/- The program's RunningLamps and the reference's answer alike for every number. No condition. (2 to 10: by reckoning.) -/
import Derived.Test.YtdkcppnfjmcloaaPRunningLampsz
import Derived.KernelRfl
namespace Go.Proofs.Ytdkcppnfjmcloaa.Pure
open Go.RowKit Go.Proofs.Ytdkcppnfjmcloaa.PRunningLamps Go.Proofs.YtdkcppnfjmcloaaW.PrintWords Go.Proofs.YtdkcppnfjmcloaaW.PrintLast Go.Proofs.YtdkcppnfjmcloaaW.PrintMore
set_option linter.unusedVariables false
set_option linter.unusedSimpArgs false
theorem ev0 : ∃ k, laws_FnExactRunningLamps.f k 0 = some true := ⟨60, by decide +kernel⟩
theorem FnExactRunningLamps_pure (a0 : Int) (o0 : (Lit.int .i64 a0).wf = true) : ∃ k, laws_FnExactRunningLamps.f k a0 = some true := by
  by_cases h : 2 ≤ a0 ∧ a0 ≤ 10
  · have hc : a0 = 2 ∨ a0 = 3 ∨ a0 = 4 ∨ a0 = 5 ∨ a0 = 6 ∨ a0 = 7 ∨ a0 = 8 ∨ a0 = 9 ∨ a0 = 10 := by omega
    rcases hc with rfl | rfl | rfl | rfl | rfl | rfl | rfl | rfl | rfl
    all_goals exact ⟨60, by decide +kernel⟩
  · have hi : inB a0 2 10 = false := by simp only [inB, Bool.and_eq_false_iff, decide_eq_false_iff_not]; omega
    obtain ⟨k, hk⟩ := ev0
    have hi0 : inB 0 2 10 = false := by decide
    refine ⟨k + 1, ?_⟩
    have s0 : spec_RunningLamps.f (k + 1) 0 = some ([], false) := by
      have h20 : inB 0 1 10 = false := by decide
      simp [spec_RunningLamps.f, spec_laCount.f, spec_l1In.f, inB_ite, h20, spec_RunningLamps.j0]
    have e1 : spec_RunningLamps.f (k + 1) a0 = spec_RunningLamps.f (k + 1) 0 := by
      rw [s0]
      by_cases h1 : inB a0 1 10 = true
      · have h3 : a0 = 1 := by have := inB_lo h1; have := inB_hi h1; omega
        subst h3
        simp [spec_RunningLamps.f, spec_laCount.f, spec_l1In.f, inB_ite, h1, spec_RunningLamps.j0]
      · have h2 : inB a0 1 10 = false := by simpa using h1
        simp [spec_RunningLamps.f, spec_laCount.f, spec_l1In.f, inB_ite, h2, spec_RunningLamps.j0]
    have e2 : impl_RunningLamps.f a0 = impl_RunningLamps.f 0 := by simp [impl_RunningLamps.f, hi, hi0]
    have hk' := laws_FnExactRunningLamps.mono 0 k _ hk
    rw [← hk']
    simp only [laws_FnExactRunningLamps.f, e1, e2]
end Go.Proofs.Ytdkcppnfjmcloaa.Pure
