/- The program's DoesFit and the reference's answer alike for every clue and text. No condition. -/
import Derived.Test.YtoipjbblnfnhoaaDoorPDoesFitz
namespace Go.Proofs.YtoipjbblnfnhoaaDoor.Pure
open Go.RowKit Go.Proofs.YtoipjbblnfnhoaaDoor.PDoesFit Go.Proofs.YtoipjbblnfnhoaaDoorW.PrintWords Go.Proofs.YtoipjbblnfnhoaaDoorW.PrintLast Go.Proofs.YtoipjbblnfnhoaaDoorW.PrintMore
set_option linter.unusedVariables false
set_option linter.unusedSimpArgs false
theorem FnExactDoesFit_pure (a0_0 : Int) (a0_1 : Int) (a0_2 : Int) (a1 : ByteArray) (o0_0 : (Lit.int .i64 a0_0).wf = true) (o0_1 : (Lit.int .i64 a0_1).wf = true) (o0_2 : (Lit.int .i64 a0_2).wf = true) (o1 : a1.size ≤ maxLen) : ∃ k, laws_FnExactDoesFit.f k a0_0 a0_1 a0_2 a1 = some true := by
  by_cases hs : (a1.size : Int) > 1048576
  · exact ⟨0, by simp [laws_FnExactDoesFit.f, hs]⟩
  · have hn : a1.size ≤ 1048576 := by omega
    obtain ⟨K1, h1⟩ := pzHidden_ev a1
    have h2 := isHidden_eq a1 (by omega)
    cases hh : hiddenB a1
    · rw [hh] at h1 h2
      refine ⟨K1, ?_⟩
      have h1 := h1 K1 (Nat.le_refl _)
      simp only at h1
      simp [laws_FnExactDoesFit.f, laws_toClue.f, spec_DoesFit.f, impl_DoesFit.f, hs, h1, h2]
    · rw [hh] at h1 h2
      have h7 : a1.size ≤ 7 := by simp [hiddenB] at hh; exact hh.2
      have hst : stateB a1 = true := by simp [hiddenB] at hh; exact hh.1
      have hr : inB (a1.size : Int) 1 7 = true := by
        have : inB (a1.size : Int) 1 20 = true := by simp only [stateB, Bool.and_eq_true] at hst; exact hst.1
        exact inB_of (inB_lo this) (by omega)
      cases hc : clueB a1.size a0_0 a0_1 a0_2
      · refine ⟨K1 + 1, ?_⟩
        have h1 := h1 (K1 + 1) (by omega)
        simp only at h1
        have e1 := pzClueA_eq K1 (a1.size : Int) a0_0 a0_1 a0_2 (by omega)
        have e2 := implClueA_eq K1 (a1.size : Int) a0_0 a0_1 a0_2
        simp [laws_FnExactDoesFit.f, laws_toClue.f, spec_DoesFit.f, impl_DoesFit.f, hs, h1, h2, e1, e2, isClueB, hr, hc]
      · obtain ⟨⟨K2, f1⟩, ⟨K3, f2⟩⟩ := fits_ev a0_0 a0_1 a0_2 a1 h7 hst hc
        refine ⟨K1 + K2 + K3 + 1, ?_⟩
        have h1 := h1 (K1 + K2 + K3 + 1) (by omega)
        have f1 := f1 (K1 + K2 + K3 + 1) (by omega)
        have f2 := f2 (K1 + K2 + K3 + 1) (by omega)
        simp only at h1 f1 f2
        have e1 := pzClueA_eq (K1 + K2 + K3) (a1.size : Int) a0_0 a0_1 a0_2 (by omega)
        have e2 := implClueA_eq (K1 + K2 + K3) (a1.size : Int) a0_0 a0_1 a0_2
        simp [laws_FnExactDoesFit.f, laws_toClue.f, spec_DoesFit.f, impl_DoesFit.f, hs, h1, h2, e1, e2, isClueB, hr, hc, f1, f2]
end Go.Proofs.YtoipjbblnfnhoaaDoor.Pure
