/- The program's LeadOfLamps and the reference's answer alike for all lamps and states. No condition. -/
import Derived.Test.YtepaleeepbjkbaaDoorPLeadOfLampsz
namespace Go.Proofs.YtepaleeepbjkbaaDoor.Pure
open Go.RowKit Go.Proofs.YtepaleeepbjkbaaDoor.PLeadOfLamps Go.Proofs.YtepaleeepbjkbaaDoorW.PrintWords Go.Proofs.YtepaleeepbjkbaaDoorW.PrintLast Go.Proofs.YtepaleeepbjkbaaDoorW.PrintMore
set_option linter.unusedVariables false
set_option linter.unusedSimpArgs false
set_option maxHeartbeats 1000000 in
theorem FnExactLeadOfLamps_pure (l0_0 : List ByteArray) (a1 : ByteArray) (y0_0 : l0_0.length ≤ 9223372036854775807) (o0_0 : (∀ a ∈ l0_0, a.size ≤ maxLen)) (o1 : a1.size ≤ maxLen) : ∃ k, laws_FnExactLeadOfLamps.f k l0_0 a1 = some true := by
  by_cases c0 : (a1.size : Int) > 1048576
  · exact ⟨0, by simp only [laws_FnExactLeadOfLamps.f]; rw [if_pos c0]⟩
  obtain ⟨v, ⟨K1, h1⟩, hv⟩ := szLamps_ev l0_0 y0_0 o0_0
  by_cases c : v < 0
  · exact ⟨K1, by simp only [laws_FnExactLeadOfLamps.f]; rw [if_neg c0]; simp [h1 K1 (Nat.le_refl _), c]⟩
  · have hx := hv (by omega)
    obtain ⟨K2, h2⟩ := toLamps_ev l0_0 hx.1
    obtain ⟨K3, h3⟩ := eqLamps_ev l0_0 y0_0
    obtain ⟨K4, h4⟩ := specLead_ev l0_0 a1
    refine ⟨K1 + K2 + K3 + K4, ?_⟩
    simp only [laws_FnExactLeadOfLamps.f]
    rw [if_neg c0]
    simp [h1 (K1 + K2 + K3 + K4) (by omega), c, h2 (K1 + K2 + K3 + K4) (by omega), h3 (K1 + K2 + K3 + K4) (by omega), h4 (K1 + K2 + K3 + K4) (by omega), implLead_eq]
end Go.Proofs.YtepaleeepbjkbaaDoor.Pure
