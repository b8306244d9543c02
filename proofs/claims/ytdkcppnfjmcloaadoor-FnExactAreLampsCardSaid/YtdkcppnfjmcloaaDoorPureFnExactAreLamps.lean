/- The program's AreLamps and the reference's answer alike for all lamps. No condition. -/
import Derived.Test.YtdkcppnfjmcloaaDoorPAreLampsz
namespace Go.Proofs.YtdkcppnfjmcloaaDoor.Pure
open Go.RowKit Go.Proofs.YtdkcppnfjmcloaaDoor.PAreLamps Go.Proofs.YtdkcppnfjmcloaaDoorW.PrintWords Go.Proofs.YtdkcppnfjmcloaaDoorW.PrintLast Go.Proofs.YtdkcppnfjmcloaaDoorW.PrintMore
set_option linter.unusedVariables false
set_option linter.unusedSimpArgs false
set_option maxHeartbeats 1000000 in
theorem FnExactAreLamps_pure (l0_0 : List ByteArray) (y0_0 : l0_0.length ≤ 9223372036854775807) (o0_0 : (∀ a ∈ l0_0, a.size ≤ maxLen)) : ∃ k, laws_FnExactAreLamps.f k l0_0 = some true := by
  obtain ⟨v, ⟨K1, h1⟩, hv⟩ := szLamps_ev l0_0 y0_0 o0_0
  by_cases c : v < 0
  · exact ⟨K1, by simp [laws_FnExactAreLamps.f, h1 K1 (Nat.le_refl _), c]⟩
  · have hx := hv (by omega)
    obtain ⟨K2, h2⟩ := toLamps_ev l0_0 hx.1
    obtain ⟨K3, h3⟩ := eqLamps_ev l0_0 y0_0
    refine ⟨K1 + K2 + K3, ?_⟩
    simp [laws_FnExactAreLamps.f, h1 (K1 + K2 + K3) (by omega), c, h2 (K1 + K2 + K3) (by omega), h3 (K1 + K2 + K3) (by omega), spec_AreLamps.f, spec_laGood.f, impl_AreLamps.f]
end Go.Proofs.YtdkcppnfjmcloaaDoor.Pure
