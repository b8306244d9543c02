/- The program's IsDesk and the reference's answer alike for every desk. No condition. -/
import Derived.Test.YtepaleeepbjkbaaDoorPIsDeskz
namespace Go.Proofs.YtepaleeepbjkbaaDoor.Pure
open Go.RowKit Go.Proofs.YtepaleeepbjkbaaDoor.PIsDesk Go.Proofs.YtepaleeepbjkbaaDoorW.PrintWords Go.Proofs.YtepaleeepbjkbaaDoorW.PrintLast Go.Proofs.YtepaleeepbjkbaaDoorW.PrintMore
set_option linter.unusedVariables false
set_option linter.unusedSimpArgs false
set_option maxHeartbeats 1000000 in
theorem FnExactIsDesk_pure (a0_0 : ByteArray) (l0_1 : List ByteArray) (y0_1 : l0_1.length ≤ 9223372036854775807) (o0_0 : a0_0.size ≤ maxLen) (o0_1 : (∀ a ∈ l0_1, a.size ≤ maxLen)) : ∃ k, laws_FnExactIsDesk.f k a0_0 l0_1 = some true := by
  obtain ⟨v, ⟨K1, h1⟩, hv⟩ := szDesk_ev a0_0 l0_1 o0_0 y0_1 o0_1
  by_cases c : v < 0
  · exact ⟨K1, by simp [laws_FnExactIsDesk.f, h1 K1 (Nat.le_refl _), c]⟩
  · have hx := hv (by omega)
    obtain ⟨K2, h2⟩ := toDesk_ev a0_0 l0_1 hx.1
    obtain ⟨K3, h3⟩ := eqDesk_ev a0_0 l0_1 y0_1
    obtain ⟨K4, h4⟩ := specIsDesk_ev a0_0 l0_1
    have hk : impl_keyed.f l0_1 [a0_0] = some (keysB l0_1 && (stateB a0_0 && (a0_0.size == l0_1.length))) := by
      unfold impl_keyed.f
      have hz : a0_0.size ≤ 9223372036854775807 := by omega
      rw [if_pos (by simp [hz])]
      simp
    have h1 := h1 (K1 + K2 + K3 + K4) (by omega)
    have h2 := h2 (K1 + K2 + K3 + K4) (by omega)
    have h3 := h3 (K1 + K2 + K3 + K4) (by omega)
    have h4 := h4 (K1 + K2 + K3 + K4) (by omega)
    simp only at h1 h2 h3 h4
    exact ⟨K1 + K2 + K3 + K4, by simp [laws_FnExactIsDesk.f, h1, c, h2, h3, h4, impl_IsDesk.f, hk]⟩
end Go.Proofs.YtepaleeepbjkbaaDoor.Pure
