/- The program's IsPuzzle and the reference's answer alike for every puzzle. No condition. -/
import Derived.Test.YtdkcppnfjmcloaaPIsPuzz
namespace Go.Proofs.Ytdkcppnfjmcloaa.Pure
open Go.RowKit Go.Proofs.Ytdkcppnfjmcloaa.PIsPuz Go.Proofs.YtdkcppnfjmcloaaW.PrintWords Go.Proofs.YtdkcppnfjmcloaaW.PrintLast Go.Proofs.YtdkcppnfjmcloaaW.PrintMore
set_option linter.unusedVariables false
set_option linter.unusedSimpArgs false
theorem FnExactIsPuzzle_pure (a0_0 : Int) (l0_1 : List S23) (y0_1 : l0_1.length ≤ 9223372036854775807) (o0_0 : (Lit.int .i64 a0_0).wf = true) (o0_1 : (∀ a ∈ l0_1, ((Lit.int .i64 a.f0).wf = true ∧ (Lit.int .i64 a.f1).wf = true ∧ (Lit.int .i64 a.f2).wf = true))) : ∃ k, laws_FnExactIsPuzzle.f k a0_0 l0_1 = some true := by
  by_cases hs : (1048576 : Int) < l0_1.length
  · exact ⟨0, by simp [laws_FnExactIsPuzzle.f, laws_szPuzzle.f, laws_szClueS.eq l0_1 1048576 (by omega) (by omega) y0_1, hs]⟩
  · obtain ⟨K1, h1⟩ := laws_toClueS.ev l0_1 (by omega)
    obtain ⟨K2, h2⟩ := pzGood_ev a0_0 (l0_1.map fun x : S23 => (⟨x.f0, x.f1, x.f2⟩ : S25)) (by simpa using y0_1)
    obtain ⟨K3, h3⟩ := laws_eqClueS.ev (l0_1.map fun x : S23 => (⟨x.f0, x.f1, x.f2⟩ : S25)) (by simpa using y0_1)
    refine ⟨K1 + K2 + K3, ?_⟩
    have hn : ¬ (1048576 : Int) - l0_1.length < 0 := by omega
    simp [laws_FnExactIsPuzzle.f, laws_szPuzzle.f, laws_szClueS.eq l0_1 1048576 (by omega) (by omega) y0_1, hs, hn, laws_toPuzzle.f, h1 (K1 + K2 + K3) (by omega), spec_IsPuzzle.f, h2 (K1 + K2 + K3) (by omega), impl_IsPuzzle.f, laws_eqPuzzle.f, h3 (K1 + K2 + K3) (by omega)]
end Go.Proofs.Ytdkcppnfjmcloaa.Pure
