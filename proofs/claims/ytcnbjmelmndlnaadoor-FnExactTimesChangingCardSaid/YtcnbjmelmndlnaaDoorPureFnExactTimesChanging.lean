/- The program's TimesChanging and the reference's answer alike for all lamps, and what is handed back is new. No condition. -/
import Derived.Test.YtcnbjmelmndlnaaDoorPTimesChangingz
namespace Go.Proofs.YtcnbjmelmndlnaaDoor.Pure
open Go.RowKit Go.Proofs.YtcnbjmelmndlnaaDoor.PTimesChanging Go.Proofs.YtcnbjmelmndlnaaDoorW.PrintWords Go.Proofs.YtcnbjmelmndlnaaDoorW.PrintLast Go.Proofs.YtcnbjmelmndlnaaDoorW.PrintMore
set_option linter.unusedVariables false
set_option linter.unusedSimpArgs false
set_option maxHeartbeats 1000000 in
theorem FnExactTimesChanging_pure (l0_0 : List ByteArray) (a1 : ByteArray) (a2 : Int) (y0_0 : l0_0.length ≤ 9223372036854775807) (o0_0 : (∀ a ∈ l0_0, a.size ≤ maxLen)) (o1 : a1.size ≤ maxLen) (o2 : (Lit.int .i64 a2).wf = true) : ∃ k, laws_FnExactTimesChanging.f k l0_0 a1 a2 = some true := by
  by_cases c_a1 : (a1.size : Int) > 1048576
  · exact ⟨0, by simp only [laws_FnExactTimesChanging.f]; rw [if_pos c_a1]⟩
  obtain ⟨v, ⟨K1, h1⟩, hv⟩ := szLamps_ev l0_0 y0_0 o0_0
  by_cases c : v < 0
  · refine ⟨K1, ?_⟩
    simp only [laws_FnExactTimesChanging.f]
    rw [if_neg c_a1]
    simp [h1 K1 (Nat.le_refl _), c]
  · have hx := hv (by omega)
    obtain ⟨K2, h2⟩ := toLamps_ev l0_0 hx.1
    obtain ⟨K3, h3⟩ := eqLamps_ev l0_0 y0_0
    obtain ⟨K4, h4⟩ := implTimes_ev l0_0 a1 a2
    obtain ⟨K9, h9⟩ := specTimes_ev l0_0 a1 a2
    have hr := timesR_length l0_0 a1 a2
    generalize timesR l0_0 a1 a2 = R at h4 hr h9
    obtain ⟨g, b⟩ := R
    simp only at hr
    obtain ⟨K5, h5⟩ := laws_eqIntS.ev g (by omega)
    obtain ⟨K6, h6⟩ := markLamps_ev l0_0 (by omega)
    obtain ⟨K7, h7⟩ := laws_markIntS.ev g 1 (by omega) (by omega)
    obtain ⟨K8, h8⟩ := laws_heldIntS.ev g.length 1 (by omega) (by omega)
    have n6 : ¬ (1 + 1 * (l0_0.length : Int)) < 0 := by omega
    have n6' : ¬ (1 + (l0_0.length : Int)) < 0 := by omega
    have n7 : ¬ (1 + 1 * (g.length : Int)) < 0 := by omega
    have n8 : ¬ (1 + (g.length : Int)) < 0 := by omega
    obtain ⟨K, e1, e2, e3, e4, e5, e6, e7, e8, e9⟩ : ∃ K, K1 ≤ K ∧ K2 ≤ K ∧ K3 ≤ K ∧ K4 ≤ K ∧ K5 ≤ K ∧ K6 ≤ K ∧ K7 ≤ K ∧ K8 ≤ K ∧ K9 ≤ K := ⟨K1 + K2 + K3 + K4 + K5 + K6 + K7 + K8 + K9, by omega, by omega, by omega, by omega, by omega, by omega, by omega, by omega, by omega⟩
    have h1 := h1 K e1
    have h2 := h2 K e2
    have h3 := h3 K e3
    have h4 := h4 K e4
    have h5 := h5 K e5
    have h6 := h6 K e6
    have h7 := h7 K e7
    have h8 := h8 K e8
    have h9 := h9 K e9
    simp only at h1 h2 h3 h4 h5 h6 h7 h8 h9
    refine ⟨K, ?_⟩
    simp only [laws_FnExactTimesChanging.f]
    rw [if_neg c_a1]
    simp [h1, c, h2, h3, h4, h9, h5, h6, h7, h8, n6, n6', n7, n8]
end Go.Proofs.YtcnbjmelmndlnaaDoor.Pure
