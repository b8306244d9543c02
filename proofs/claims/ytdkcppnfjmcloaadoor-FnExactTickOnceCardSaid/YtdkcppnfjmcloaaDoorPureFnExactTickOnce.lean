/- The program's TickOnce and the reference's answer alike for all lamps. No condition. -/
import Derived.Test.YtdkcppnfjmcloaaDoorPTickOncez
namespace Go.Proofs.YtdkcppnfjmcloaaDoor.Pure
open Go.RowKit Go.Proofs.YtdkcppnfjmcloaaDoor.PTickOnce Go.Proofs.YtdkcppnfjmcloaaDoorW.PrintWords Go.Proofs.YtdkcppnfjmcloaaDoorW.PrintLast Go.Proofs.YtdkcppnfjmcloaaDoorW.PrintMore
set_option linter.unusedVariables false
set_option linter.unusedSimpArgs false
set_option maxHeartbeats 1000000 in
theorem FnExactTickOnce_pure (l0_0 : List ByteArray) (a1 : ByteArray) (y0_0 : l0_0.length ≤ 9223372036854775807) (o0_0 : (∀ a ∈ l0_0, a.size ≤ maxLen)) (o1 : a1.size ≤ maxLen) : ∃ k, laws_FnExactTickOnce.f k l0_0 a1 = some true := by
  by_cases c0 : (a1.size : Int) > 1048576
  · exact ⟨0, by simp only [laws_FnExactTickOnce.f]; rw [if_pos c0]⟩
  obtain ⟨v, ⟨K1, h1⟩, hv⟩ := szLamps_ev l0_0 y0_0 o0_0
  by_cases c : v < 0
  · exact ⟨K1, by simp only [laws_FnExactTickOnce.f]; rw [if_neg c0]; simp [h1 K1 (Nat.le_refl _), c]⟩
  · have hx := hv (by omega)
    obtain ⟨K2, h2⟩ := toLamps_ev l0_0 hx.1
    obtain ⟨K3, h3⟩ := eqLamps_ev l0_0 y0_0
    refine ⟨K1 + K2 + K3, ?_⟩
    simp only [laws_FnExactTickOnce.f]
    rw [if_neg c0]
    simp [h1 (K1 + K2 + K3) (by omega), c, h2 (K1 + K2 + K3) (by omega), h3 (K1 + K2 + K3) (by omega), implTickOnce_eq, specTickOnce_eq]
end Go.Proofs.YtdkcppnfjmcloaaDoor.Pure
