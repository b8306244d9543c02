/- The program's IsUndone and the reference's answer alike for all lamps. No condition. -/
import Derived.Test.YtpjdlobkeafacaaDoorPIsUndonez
namespace Go.Proofs.YtpjdlobkeafacaaDoor.Pure
open Go.RowKit Go.Proofs.YtpjdlobkeafacaaDoor.PIsUndone Go.Proofs.YtpjdlobkeafacaaDoorW.PrintWords Go.Proofs.YtpjdlobkeafacaaDoorW.PrintLast Go.Proofs.YtpjdlobkeafacaaDoorW.PrintMore
set_option linter.unusedVariables false
set_option linter.unusedSimpArgs false
set_option maxHeartbeats 1000000 in
theorem FnExactIsUndone_pure (l0_0 : List ByteArray) (y0_0 : l0_0.length ≤ 9223372036854775807) (o0_0 : (∀ a ∈ l0_0, a.size ≤ maxLen)) : ∃ k, laws_FnExactIsUndone.f k l0_0 = some true := by
  obtain ⟨v, ⟨K1, h1⟩, hv⟩ := szLamps_ev l0_0 y0_0 o0_0
  by_cases c : v < 0
  · exact ⟨K1, by simp [laws_FnExactIsUndone.f, h1 K1 (Nat.le_refl _), c]⟩
  · have hx := hv (by omega)
    obtain ⟨K2, h2⟩ := toLamps_ev l0_0 hx.1
    obtain ⟨K3, h3⟩ := eqLamps_ev l0_0 y0_0
    have i1 := implUndone_eq l0_0
    obtain ⟨K4, h4⟩ := specUndone_ev l0_0
    generalize undoneR l0_0 = R at i1 h4
    obtain ⟨g, b⟩ := R
    have h1 := h1 (K1 + K2 + K3 + K4) (by omega)
    have h2 := h2 (K1 + K2 + K3 + K4) (by omega)
    have h3 := h3 (K1 + K2 + K3 + K4) (by omega)
    have h4 := h4 (K1 + K2 + K3 + K4) (by omega)
    simp only at h1 h2 h3 h4
    refine ⟨K1 + K2 + K3 + K4, ?_⟩
    simp [laws_FnExactIsUndone.f, h1, h2, h3, h4, i1, c]
end Go.Proofs.YtpjdlobkeafacaaDoor.Pure
