/- The program's MakePuzzle and the reference's answer alike for all texts and numbers, and what is handed back is new. No condition. -/
import Derived.Test.YtepaleeepbjkbaaDoorPMakePuzzlez
namespace Go.Proofs.YtepaleeepbjkbaaDoor.Pure
open Go.RowKit Go.Proofs.YtepaleeepbjkbaaDoor.PMakePuzzle Go.Proofs.YtepaleeepbjkbaaDoorW.PrintWords Go.Proofs.YtepaleeepbjkbaaDoorW.PrintLast Go.Proofs.YtepaleeepbjkbaaDoorW.PrintMore
set_option linter.unusedVariables false
set_option linter.unusedSimpArgs false
set_option maxHeartbeats 1000000 in
theorem FnExactMakePuzzle_pure (a0 : ByteArray) (a1 a2 : Int) (o0 : a0.size ≤ maxLen) (o1 : (Lit.int .i64 a1).wf = true) (o2 : (Lit.int .i64 a2).wf = true) : ∃ k, laws_FnExactMakePuzzle.f k a0 a1 a2 = some true := by
  by_cases c0 : (a0.size : Int) > 1048576
  · exact ⟨0, by simp only [laws_FnExactMakePuzzle.f, if_pos c0]⟩
  · have hR := makeR_length a0 a1 a2
    have i1 := implMake_eq a0 a1 a2 (by omega)
    obtain ⟨K1, h1⟩ := specMake_ev a0 a1 a2
    generalize makeR a0 a1 a2 = R at i1 h1 hR
    obtain ⟨g, l, b⟩ := R
    simp only at hR
    obtain ⟨K2, h2⟩ := eqPuzzle_ev g l (by omega)
    obtain ⟨K3, h3⟩ := markPuzzle_ev g l (by omega)
    obtain ⟨K4, h4⟩ := heldPuzzle_ev g l.length (by omega)
    have h1 := h1 (K1 + K2 + K3 + K4) (by omega)
    have h2 := h2 (K1 + K2 + K3 + K4) (by omega)
    have h3 := h3 (K1 + K2 + K3 + K4) (by omega)
    have h4 := h4 (K1 + K2 + K3 + K4) (by omega)
    simp only at h1 h2 h3 h4
    have n4 : ¬ (1 + 3 * (l.length : Int)) < 0 := by omega
    refine ⟨K1 + K2 + K3 + K4, ?_⟩
    simp only [laws_FnExactMakePuzzle.f, h1, h2, h3, h4, i1, Option.bind_some, if_true, if_neg c0, if_neg n4, bne_self_eq_false, Bool.false_eq_true, if_false]
end Go.Proofs.YtepaleeepbjkbaaDoor.Pure
