/- The program's CycleOfLamps and the reference's answer alike for all lamps and texts, and what is handed back is new. No condition. -/
import Derived.Test.YtpjdlobkeafacaaDoorPCycleOfLampsz
namespace Go.Proofs.YtpjdlobkeafacaaDoor.Pure
open Go.RowKit Go.Proofs.YtpjdlobkeafacaaDoor.PCycleOfLamps Go.Proofs.YtpjdlobkeafacaaDoorW.PrintWords Go.Proofs.YtpjdlobkeafacaaDoorW.PrintLast Go.Proofs.YtpjdlobkeafacaaDoorW.PrintMore
set_option linter.unusedVariables false
set_option linter.unusedSimpArgs false
set_option maxHeartbeats 1000000 in
theorem FnExactCycleOfLamps_pure (l0_0 : List ByteArray) (a1 : ByteArray) (y0_0 : l0_0.length ≤ 9223372036854775807) (o0_0 : (∀ a ∈ l0_0, a.size ≤ maxLen)) (o1 : a1.size ≤ maxLen) : ∃ k, laws_FnExactCycleOfLamps.f k l0_0 a1 = some true := by
  by_cases c0 : (a1.size : Int) > 1048576
  · exact ⟨0, by simp only [laws_FnExactCycleOfLamps.f, if_pos c0]⟩
  obtain ⟨v, ⟨K1, h1⟩, hv⟩ := szLamps_ev l0_0 y0_0 o0_0
  by_cases c : v < 0
  · refine ⟨K1, ?_⟩
    simp only [laws_FnExactCycleOfLamps.f]
    simp [h1 K1 (Nat.le_refl _), c]
  · have hx := hv (by omega)
    have hR := cycleR_len l0_0 a1
    obtain ⟨K2, h2⟩ := toLamps_ev l0_0 hx.1
    obtain ⟨K3, h3⟩ := eqLamps_ev l0_0 y0_0
    obtain ⟨K4, h4⟩ := markLamps_ev l0_0 (by omega)
    have i1 := implCycle_eq l0_0 a1
    obtain ⟨K8, h8⟩ := specCycle_ev l0_0 a1
    generalize cycleR l0_0 a1 = R at i1 h8 hR
    obtain ⟨r, b⟩ := R
    simp only at hR
    obtain ⟨K5, h5⟩ := laws_eqStringS.ev r (by omega)
    obtain ⟨K6, h6⟩ := laws_markStringS.ev r 1 (by omega) (by omega)
    obtain ⟨K7, h7⟩ := laws_heldStringS.ev r.length 1 (by omega) (by omega)
    have h1 := h1 (K1 + K2 + K3 + K4 + K5 + K6 + K7 + K8) (by omega)
    have h2 := h2 (K1 + K2 + K3 + K4 + K5 + K6 + K7 + K8) (by omega)
    have h3 := h3 (K1 + K2 + K3 + K4 + K5 + K6 + K7 + K8) (by omega)
    have h4 := h4 (K1 + K2 + K3 + K4 + K5 + K6 + K7 + K8) (by omega)
    have h5 := h5 (K1 + K2 + K3 + K4 + K5 + K6 + K7 + K8) (by omega)
    have h6 := h6 (K1 + K2 + K3 + K4 + K5 + K6 + K7 + K8) (by omega)
    have h7 := h7 (K1 + K2 + K3 + K4 + K5 + K6 + K7 + K8) (by omega)
    have h8 := h8 (K1 + K2 + K3 + K4 + K5 + K6 + K7 + K8) (by omega)
    simp only at h1 h2 h3 h4 h5 h6 h7 h8
    have n4 : ¬ (1 + 1 * (l0_0.length : Int)) < 0 := by omega
    have n7 : ¬ (1 + 1 * (r.length : Int)) < 0 := by omega
    refine ⟨K1 + K2 + K3 + K4 + K5 + K6 + K7 + K8, ?_⟩
    simp only [laws_FnExactCycleOfLamps.f, h1, h2, h3, h4, h5, h6, h7, h8, i1, Option.bind_some, if_true, if_neg c, if_neg n4, if_neg n7, bne_self_eq_false, Bool.false_eq_true, if_false, if_neg c0]
end Go.Proofs.YtpjdlobkeafacaaDoor.Pure
