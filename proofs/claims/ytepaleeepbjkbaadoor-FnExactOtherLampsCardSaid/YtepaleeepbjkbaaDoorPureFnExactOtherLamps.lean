/- The program's OtherLamps and the reference's answer alike for all lamps, and what is handed back is new. No condition. -/
import Derived.Test.YtepaleeepbjkbaaDoorPOtherLampsz
namespace Go.Proofs.YtepaleeepbjkbaaDoor.Pure
open Go.RowKit Go.Proofs.YtepaleeepbjkbaaDoor.POtherLamps Go.Proofs.YtepaleeepbjkbaaDoorW.PrintWords Go.Proofs.YtepaleeepbjkbaaDoorW.PrintLast Go.Proofs.YtepaleeepbjkbaaDoorW.PrintMore
set_option linter.unusedVariables false
set_option linter.unusedSimpArgs false
set_option maxHeartbeats 1000000 in
theorem FnExactOtherLamps_pure (l0_0 : List ByteArray) (y0_0 : l0_0.length ≤ 9223372036854775807) (o0_0 : (∀ a ∈ l0_0, a.size ≤ maxLen)) : ∃ k, laws_FnExactOtherLamps.f k l0_0 = some true := by
  obtain ⟨v, ⟨K1, h1⟩, hv⟩ := szLamps_ev l0_0 y0_0 o0_0
  by_cases c : v < 0
  · refine ⟨K1, ?_⟩
    simp only [laws_FnExactOtherLamps.f]
    simp [h1 K1 (Nat.le_refl _), c]
  · have hx := hv (by omega)
    have hR := otherR_len l0_0
    obtain ⟨K2, h2⟩ := toLamps_ev l0_0 hx.1
    obtain ⟨K3, h3⟩ := eqLamps_ev l0_0 y0_0
    obtain ⟨K4, h4⟩ := markLamps_ev l0_0 (by omega)
    have i1 := implOther_eq l0_0
    have i2 := specOther_eq l0_0
    generalize otherR l0_0 = R at i1 i2 hR
    obtain ⟨r, b⟩ := R
    simp only at hR
    obtain ⟨K5, h5⟩ := eqLamps_ev r (by omega)
    obtain ⟨K6, h6⟩ := markLamps_ev r (by omega)
    obtain ⟨K7, h7⟩ := heldLamps_ev r.length (by omega)
    have h1 := h1 (K1 + K2 + K3 + K4 + K5 + K6 + K7) (by omega)
    have h2 := h2 (K1 + K2 + K3 + K4 + K5 + K6 + K7) (by omega)
    have h3 := h3 (K1 + K2 + K3 + K4 + K5 + K6 + K7) (by omega)
    have h4 := h4 (K1 + K2 + K3 + K4 + K5 + K6 + K7) (by omega)
    have h5 := h5 (K1 + K2 + K3 + K4 + K5 + K6 + K7) (by omega)
    have h6 := h6 (K1 + K2 + K3 + K4 + K5 + K6 + K7) (by omega)
    have h7 := h7 (K1 + K2 + K3 + K4 + K5 + K6 + K7) (by omega)
    simp only at h1 h2 h3 h4 h5 h6 h7
    have n4 : ¬ (1 + 1 * (l0_0.length : Int)) < 0 := by omega
    have n7 : ¬ (1 + 1 * (r.length : Int)) < 0 := by omega
    refine ⟨K1 + K2 + K3 + K4 + K5 + K6 + K7, ?_⟩
    simp only [laws_FnExactOtherLamps.f, h1, h2, h3, h4, h5, h6, h7, i1, i2, Option.bind_some, if_true, if_neg c, if_neg n4, if_neg n7, bne_self_eq_false, Bool.false_eq_true, if_false]
end Go.Proofs.YtepaleeepbjkbaaDoor.Pure
