/- The program's IsClue and the reference's are one function of four numbers. No condition. -/
import Derived.Test.YtdkcppnfjmcloaaPIsCluex1
namespace Go.Proofs.Ytdkcppnfjmcloaa.Pure
open Go.RowKit Go.Proofs.Ytdkcppnfjmcloaa.PIsClue Go.Proofs.YtdkcppnfjmcloaaW.PrintWords Go.Proofs.YtdkcppnfjmcloaaW.PrintLast Go.Proofs.YtdkcppnfjmcloaaW.PrintMore
def inB (a b c : Int) : Bool := decide (b ≤ a) && decide (a ≤ c)
theorem l1In_eq (a b c : Int) : spec_l1In.f a b c = some (inB a b c) := by
  unfold spec_l1In.f inB; split <;> rename_i h
  · simp [show b ≤ a from h]
  · simp [show ¬ b ≤ a from h]
theorem in_eq (a b c : Int) : impl_in.f a b c = some (inB a b c) := l1In_eq a b c
def clueB (r k a b : Int) : Bool := if k = 0 ∨ k = 4 then inB a 0 (wrap64 (r - 1)) && inB b 0 1 else if k = 1 then inB a 0 r && (b == 0) else if k = 2 then inB a 2 9 && inB b 0 (wrap64 (a - 1)) else if k = 3 then inB a 0 (wrap64 (shl .i64 1 r - 1)) && inB b 0 127 else false
theorem and_bind (x y : Bool) : (if x = true then some y else some false) = some (x && y) := by cases x <;> rfl
theorem pzClue_eq (n : Nat) (r k a b : Int) (h : 0 ≤ r) : spec_pzClue.f (n + 1) r k a b = some (clueB r k a b) := by
  simp only [spec_pzClue.f, spec_pzClue.j0, l1In_eq, Option.bind_some, and_bind, clueB]
  by_cases h0 : k = 0
  · simp [h0]
  · by_cases h4 : k = 4
    · simp [h4]
    · by_cases h1 : k = 1
      · simp [h1]
      · by_cases h2 : k = 2
        · simp [h2]
        · by_cases h3 : k = 3
          · simp [h3, h]
          · simp [h0, h1, h2, h3, h4]
theorem implClue_j0 (k : Nat) (a b : Int) (t : Bool) (c d e : Int) : impl_IsClue.j0 k a b t c d e = spec_pzClue.j0 k a b t c d e := by
  cases k with
  | zero => rfl
  | succ k => rfl
def isClueB (r k a b : Int) : Bool := inB r 1 7 && clueB r k a b
theorem inB_lo {a b c : Int} (h : inB a b c = true) : b ≤ a := by simp [inB] at h; exact h.1
theorem inB_hi {a b c : Int} (h : inB a b c = true) : a ≤ c := by simp [inB] at h; exact h.2
theorem implClue_eq (n : Nat) (r k a b : Int) : impl_IsClue.f (n + 1) r k a b = some (isClueB r k a b) := by
  simp only [impl_IsClue.f, in_eq, Option.bind_some, isClueB, implClue_j0]
  cases h : inB r 1 7
  · rfl
  · have := pzClue_eq n r k a b (by have := inB_lo h; omega)
    simp only [spec_pzClue.f] at this
    simp [this]
theorem specClue_eq (n : Nat) (r k a b : Int) : spec_IsClue.f (n + 1) r k a b = some (isClueB r k a b) := by
  simp only [spec_IsClue.f, spec_pzRings.f, l1In_eq, Option.bind_some, isClueB]
  cases h : inB r 1 7
  · rfl
  · simp [pzClue_eq n r k a b (by have := inB_lo h; omega)]
theorem FnExactIsClue_pure (a0 : Int) (a1_0 : Int) (a1_1 : Int) (a1_2 : Int) (o0 : (Lit.int .i64 a0).wf = true) (o1_0 : (Lit.int .i64 a1_0).wf = true) (o1_1 : (Lit.int .i64 a1_1).wf = true) (o1_2 : (Lit.int .i64 a1_2).wf = true) : ∃ k, laws_FnExactIsClue.f k a0 a1_0 a1_1 a1_2 = some true :=
  ⟨1, by simp [laws_FnExactIsClue.f, laws_toClue.f, implClue_eq 0, specClue_eq 0]⟩
end Go.Proofs.Ytdkcppnfjmcloaa.Pure
