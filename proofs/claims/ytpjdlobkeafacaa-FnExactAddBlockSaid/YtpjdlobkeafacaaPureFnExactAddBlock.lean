/- The program's AddBlock and the reference's answer alike for every row of bolts and block, and what is handed back is new. No condition. -/
import Derived.Test.YtpjdlobkeafacaaPAddBlockz
namespace Go.Proofs.Ytpjdlobkeafacaa.Pure
open Go.RowKit Go.Proofs.Ytpjdlobkeafacaa.PAddBlock Go.Proofs.YtpjdlobkeafacaaW.PrintWords Go.Proofs.YtpjdlobkeafacaaW.PrintLast Go.Proofs.YtpjdlobkeafacaaW.PrintMore
set_option linter.unusedVariables false
set_option linter.unusedSimpArgs false
theorem FnExactAddBlock_pure (l0_0 : List Int) (l0_1 : List S27) (a1_0 : Int) (a1_1 : Int) (a1_2 : Int) (a1_3 : Int) (y0_0 : l0_0.length ≤ 9223372036854775807) (y0_1 : l0_1.length ≤ 9223372036854775807) (o0_0 : (∀ a ∈ l0_0, (Lit.int .i64 a).wf = true)) (o0_1 : (∀ a ∈ l0_1, ((Lit.int .i64 a.f0).wf = true ∧ (Lit.int .i64 a.f1).wf = true ∧ (Lit.int .i64 a.f2).wf = true ∧ (Lit.int .i64 a.f3).wf = true))) (o1_0 : (Lit.int .i64 a1_0).wf = true) (o1_1 : (Lit.int .i64 a1_1).wf = true) (o1_2 : (Lit.int .i64 a1_2).wf = true) (o1_3 : (Lit.int .i64 a1_3).wf = true) : ∃ k, laws_FnExactAddBlock.f k l0_0 l0_1 a1_0 a1_1 a1_2 a1_3 = some true := by
  by_cases hs : (1048576 : Int) < l0_0.length + l0_1.length
  · exact ⟨0, by simp [laws_FnExactAddBlock.f, laws_toBlock.f, szBolts_eq l0_0 l0_1 y0_0 y0_1, hs]⟩
  · have hn : ¬ (1048576 : Int) - l0_0.length - l0_1.length < 0 := by omega
    obtain ⟨K1, h1⟩ := toBolts_ev l0_0 l0_1 (by omega) (by omega)
    have hx : (toBlocks l0_1).length ≤ 1048576 := by rw [toBlocks_length]; omega
    have hx0 : l0_0.length ≤ 1048576 := by omega
    generalize toBlocks l0_1 = x at h1 hx
    obtain ⟨K2, h2⟩ := specAddBlock_ev l0_0 x a1_0 a1_1 a1_2 a1_3 hx0 hx
    have h2' := implAddBlock_eq l0_0 x a1_0 a1_1 a1_2 a1_3 hx0 hx
    have hR : (addBlockR l0_0 x a1_0 a1_1 a1_2 a1_3).1.length ≤ 1048577 ∧ (addBlockR l0_0 x a1_0 a1_1 a1_2 a1_3).2.1.length ≤ 1048577 := by
      unfold addBlockR
      split
      · exact ⟨by show l0_0.length ≤ 1048577; omega, by simp; omega⟩
      · simp
    generalize addBlockR l0_0 x a1_0 a1_1 a1_2 a1_3 = R at h2 h2' hR
    obtain ⟨g, l, b⟩ := R
    simp only at hR
    obtain ⟨hg, hl⟩ := hR
    obtain ⟨K3, h3⟩ := eqBolts_ev g l (by omega) (by omega)
    obtain ⟨K4, h4⟩ := eqBolts_ev l0_0 x (by omega) (by omega)
    obtain ⟨K5, h5⟩ := markBolts_ev l0_0 x (by omega) (by omega)
    obtain ⟨K6, h6⟩ := markBolts_ev g l (by omega) (by omega)
    obtain ⟨K7, h7⟩ := heldBolts_ev g.length l.length (by omega) (by omega)
    obtain ⟨K, e1, e2, e3, e4, e5, e6, e7⟩ : ∃ K, K1 ≤ K ∧ K2 ≤ K ∧ K3 ≤ K ∧ K4 ≤ K ∧ K5 ≤ K ∧ K6 ≤ K ∧ K7 ≤ K := ⟨K1 + K2 + K3 + K4 + K5 + K6 + K7, by omega, by omega, by omega, by omega, by omega, by omega, by omega⟩
    have n5 : ¬ (1 + 1 * (l0_0.length : Int) + 4 * (x.length : Int)) < 0 := by omega
    have n7 : ¬ (1 + 1 * (g.length : Int) + 4 * (l.length : Int)) < 0 := by omega
    rw [Int.one_mul] at n5 n7
    refine ⟨K, ?_⟩
    simp [laws_FnExactAddBlock.f, laws_toBlock.f, szBolts_eq l0_0 l0_1 y0_0 y0_1, hs, hn, h1 K e1, h2 K e2, h2', h3 K e3, h4 K e4, h5 K e5, h6 K e6, h7 K e7, n5, n7]
end Go.Proofs.Ytpjdlobkeafacaa.Pure
