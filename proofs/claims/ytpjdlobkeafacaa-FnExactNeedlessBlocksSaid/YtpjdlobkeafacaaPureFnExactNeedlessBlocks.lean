/- The program's NeedlessBlocks and the reference's answer alike for every row of bolts, and what is handed back is new. No condition. -/
import Derived.Test.YtpjdlobkeafacaaPNeedlessBlocksz
namespace Go.Proofs.Ytpjdlobkeafacaa.Pure
open Go.RowKit Go.Proofs.Ytpjdlobkeafacaa.PNeedlessBlocks Go.Proofs.YtpjdlobkeafacaaW.PrintWords Go.Proofs.YtpjdlobkeafacaaW.PrintLast Go.Proofs.YtpjdlobkeafacaaW.PrintMore
set_option linter.unusedVariables false
set_option linter.unusedSimpArgs false
theorem FnExactNeedlessBlocks_pure (l0_0 : List Int) (l0_1 : List S27) (y0_0 : l0_0.length ≤ 9223372036854775807) (y0_1 : l0_1.length ≤ 9223372036854775807) (o0_0 : (∀ a ∈ l0_0, (Lit.int .i64 a).wf = true)) (o0_1 : (∀ a ∈ l0_1, ((Lit.int .i64 a.f0).wf = true ∧ (Lit.int .i64 a.f1).wf = true ∧ (Lit.int .i64 a.f2).wf = true ∧ (Lit.int .i64 a.f3).wf = true))) : ∃ k, laws_FnExactNeedlessBlocks.f k l0_0 l0_1 = some true := by
  by_cases hs : (1048576 : Int) < l0_0.length + l0_1.length
  · exact ⟨0, by simp [laws_FnExactNeedlessBlocks.f, szBolts_eq l0_0 l0_1 y0_0 y0_1, hs]⟩
  · have hn : ¬ (1048576 : Int) - l0_0.length - l0_1.length < 0 := by omega
    obtain ⟨K1, h1⟩ := toBolts_ev l0_0 l0_1 (by omega) (by omega)
    have hx : (toBlocks l0_1).length ≤ 1048576 := by rw [toBlocks_length]; omega
    have hx0 : l0_0.length ≤ 1048576 := by omega
    generalize toBlocks l0_1 = x at h1 hx
    obtain ⟨K2, h2⟩ := specNeedless_ev l0_0 x hx0 hx
    obtain ⟨K3, h3⟩ := implNeedless_ev l0_0 x
    have hR : (needlessR l0_0 x).1.length ≤ 1048577 := by
      unfold needlessR
      split
      · unfold idlesT
        rw [List.length_map]
        refine Nat.le_trans (List.length_filter_le _ _) ?_
        rw [List.length_range']
        omega
      · simp
    generalize needlessR l0_0 x = R at h2 h3 hR
    obtain ⟨g, b⟩ := R
    simp only at hR
    obtain ⟨K4, h4⟩ := laws_eqIntS.ev g (by omega)
    obtain ⟨K5, h5⟩ := eqBolts_ev l0_0 x (by omega) (by omega)
    obtain ⟨K6, h6⟩ := markBolts_ev l0_0 x (by omega) (by omega)
    obtain ⟨K7, h7⟩ := laws_markIntS.ev g 1 (by omega) (by omega)
    obtain ⟨K8, h8⟩ := laws_heldIntS.ev g.length 1 (by omega) (by omega)
    obtain ⟨K, e1, e2, e3, e4, e5, e6, e7, e8⟩ : ∃ K, K1 ≤ K ∧ K2 ≤ K ∧ K3 ≤ K ∧ K4 ≤ K ∧ K5 ≤ K ∧ K6 ≤ K ∧ K7 ≤ K ∧ K8 ≤ K := ⟨K1 + K2 + K3 + K4 + K5 + K6 + K7 + K8, by omega, by omega, by omega, by omega, by omega, by omega, by omega, by omega⟩
    have n5 : ¬ (1 + 1 * (l0_0.length : Int) + 4 * (x.length : Int)) < 0 := by omega
    have n7 : ¬ (1 + 1 * (g.length : Int)) < 0 := by omega
    have h1 := h1 K e1
    have h2 := h2 K e2
    have h3 := h3 K e3
    have h4 := h4 K e4
    have h5 := h5 K e5
    have h6 := h6 K e6
    have h7 := h7 K e7
    have h8 := h8 K e8
    simp only at h1 h2 h3 h4 h5 h6 h7 h8
    refine ⟨K, ?_⟩
    simp only [laws_FnExactNeedlessBlocks.f, szBolts_eq l0_0 l0_1 y0_0 y0_1, if_neg hs, Option.bind_some, if_neg hn, h1, h2, h3, h4, h5, h6, h7, h8, if_neg n5, if_neg n7, if_true, bne_self_eq_false, Bool.false_eq_true, if_false]
end Go.Proofs.Ytpjdlobkeafacaa.Pure
