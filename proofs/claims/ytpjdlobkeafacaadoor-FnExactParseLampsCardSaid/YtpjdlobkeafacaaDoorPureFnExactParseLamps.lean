/- The program's ParseLamps and the reference's answer alike for all texts, and what is handed back is new. No condition. -/
import Derived.Test.YtpjdlobkeafacaaDoorPParseLampsz
namespace Go.Proofs.YtpjdlobkeafacaaDoor.Pure
open Go.RowKit Go.Proofs.YtpjdlobkeafacaaDoor.PParseLamps Go.Proofs.YtpjdlobkeafacaaDoorW.PrintWords Go.Proofs.YtpjdlobkeafacaaDoorW.PrintLast Go.Proofs.YtpjdlobkeafacaaDoorW.PrintMore
set_option linter.unusedVariables false
set_option linter.unusedSimpArgs false
set_option maxHeartbeats 1000000 in
theorem FnExactParseLamps_pure (a0 : ByteArray) (o0 : a0.size ≤ maxLen) : ∃ k, laws_FnExactParseLamps.f k a0 = some true := by
  by_cases c0 : (a0.size : Int) > 1048576
  · exact ⟨0, by simp only [laws_FnExactParseLamps.f, if_pos c0]⟩
  have hR := parseR_len a0
  have i1 := implParse_eq a0 (by omega)
  obtain ⟨K1, h1⟩ := specParse_ev a0
  generalize parseR a0 = R at i1 h1 hR
  obtain ⟨l, b⟩ := R
  simp only at hR
  obtain ⟨K2, h2⟩ := eqLamps_ev l (by omega)
  obtain ⟨K3, h3⟩ := markLamps_ev l (by omega)
  obtain ⟨K4, h4⟩ := heldLamps_ev l.length (by omega)
  have h1 := h1 (K1 + K2 + K3 + K4) (by omega)
  have h2 := h2 (K1 + K2 + K3 + K4) (by omega)
  have h3 := h3 (K1 + K2 + K3 + K4) (by omega)
  have h4 := h4 (K1 + K2 + K3 + K4) (by omega)
  simp only at h1 h2 h3 h4
  have n4 : ¬ (1 + 1 * (l.length : Int)) < 0 := by omega
  refine ⟨K1 + K2 + K3 + K4, ?_⟩
  simp only [laws_FnExactParseLamps.f, h1, h2, h3, h4, i1, Option.bind_some, if_true, if_neg c0, if_neg n4, bne_self_eq_false, Bool.false_eq_true, if_false]
end Go.Proofs.YtpjdlobkeafacaaDoor.Pure
