/- The program's LampsText and the reference's answer alike for all lamps. No condition. -/
import Derived.Test.YtepaleeepbjkbaaDoorPLampsTextz
namespace Go.Proofs.YtepaleeepbjkbaaDoor.Pure
open Go.RowKit Go.Proofs.YtepaleeepbjkbaaDoor.PLampsText Go.Proofs.YtepaleeepbjkbaaDoorW.PrintWords Go.Proofs.YtepaleeepbjkbaaDoorW.PrintLast Go.Proofs.YtepaleeepbjkbaaDoorW.PrintMore
set_option linter.unusedVariables false
set_option linter.unusedSimpArgs false
set_option maxHeartbeats 1000000 in
theorem FnExactLampsText_pure (l0_0 : List ByteArray) (y0_0 : l0_0.length ≤ 9223372036854775807) (o0_0 : (∀ a ∈ l0_0, a.size ≤ maxLen)) : ∃ k, laws_FnExactLampsText.f k l0_0 = some true := by
  obtain ⟨v, ⟨K1, h1⟩, hv⟩ := szLamps_ev l0_0 y0_0 o0_0
  by_cases c : v < 0
  · refine ⟨K1, ?_⟩
    simp only [laws_FnExactLampsText.f]
    simp [h1 K1 (Nat.le_refl _), c]
  · have hx := hv (by omega)
    obtain ⟨K2, h2⟩ := toLamps_ev l0_0 hx.1
    obtain ⟨K3, h3⟩ := eqLamps_ev l0_0 y0_0
    obtain ⟨K4, h4⟩ := specText_ev l0_0
    have h1 := h1 (K1 + K2 + K3 + K4) (by omega)
    have h2 := h2 (K1 + K2 + K3 + K4) (by omega)
    have h3 := h3 (K1 + K2 + K3 + K4) (by omega)
    have h4 := h4 (K1 + K2 + K3 + K4) (by omega)
    simp only at h1 h2 h3 h4
    refine ⟨K1 + K2 + K3 + K4, ?_⟩
    simp only [laws_FnExactLampsText.f]
    simp [c, h1, h2, h3, h4, implText_eq]
end Go.Proofs.YtepaleeepbjkbaaDoor.Pure
