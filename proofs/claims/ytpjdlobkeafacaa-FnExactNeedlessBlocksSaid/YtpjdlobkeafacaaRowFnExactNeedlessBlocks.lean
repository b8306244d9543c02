/- The row of the law FnExactNeedlessBlocks: for every input the law returns true and its arguments read as before; out of the pure statement and the walk. -/
import Derived.Test.YtpjdlobkeafacaaRows
import Derived.Test.YtpjdlobkeafacaaPNeedlessBlocksx7
import Derived.Test.YtpjdlobkeafacaaPureFnExactNeedlessBlocks
import Derived.Test.YtpjdlobkeafacaaOpens
import Derived.WalkKit
import Derived.ProofKit
import Derived.OpenShut
import Derived.ShutString
import Derived.ChangeOld
import Derived.Below
import Derived.SizedLaws
import Derived.Lib.SmallJoins
namespace Go.Proofs.Ytpjdlobkeafacaa.fnExactNeedlessBlocks
open Go.ChangeShapes Go.WideShapes Go.ChangeAt Go.RowKit Go.Proofs.Ytpjdlobkeafacaa.PNeedlessBlocks Go.Proofs.YtpjdlobkeafacaaW.PrintWords
open Go.ChangeMaps (open_string shut_string)
set_option linter.unusedVariables false
theorem opens27 : Opens Try.prog k27 27 (fun x => (Lit.int .i64 x.f0).wf = true ∧ (Lit.int .i64 x.f1).wf = true ∧ (Lit.int .i64 x.f2).wf = true ∧ (Lit.int .i64 x.f3).wf = true) :=
  opens_iso (fun x : S27 => (x.f0, x.f1, x.f2, x.f3)) (fun p => (⟨p.1, p.2.1, p.2.2.1, p.2.2.2⟩ : S27)) (fun _ => rfl) (opens_struct4 Try.underlying27 (opens_int Try.underlying3) (opens_int Try.underlying3) (opens_int Try.underlying3) (opens_int Try.underlying3) rfl rfl rfl rfl (by kernel_rfl) (by kernel_rfl) (by kernel_rfl) (by kernel_rfl) (by kernel_rfl))
theorem own : ownKnob Try.prog.godebug = none := by kernel_rfl
theorem laidOut : laidOutB Try.prog = true := by kernel_rfl
set_option maxRecDepth 100000 in
theorem lifted (os : Os) (started : os.Started) (H : Type) (enc : TypeId × Value → H) :
    ReturnsInHanded {} Try.checked os 5 .any (Rows.fnExactNeedlessBlocksSpec.pre6 enc Try.prog Try.f5 Rows.fnExactNeedlessBlocksRow.domain false) (Rows.fnExactNeedlessBlocksSpec.post enc Try.prog Try.f5 false true false false) := by
  refine returnsInHanded_of_change_sized (C := Try.checked) own started (by kernel_rfl) Try.func5
    (ChangeSpec.witness6 (enc := enc) (C := Try.checked) false ⟨#[], #[.agg #[.slice none 0 0, .slice none 0 0]], []⟩ 8 (by kernel_rfl) (by kernel_rfl) (by kernel_rfl) (by kernel_rfl)) ?_
  intro W base args ds gs before hval0 hW hcnd hsz0 _

  have hval : ∀ (j : Nat) t v, Try.f5.params[j]? = some t → args[j]? = some v → Value.okWide Try.prog W .any base t v := hval0
  have hW' := hW
  obtain ⟨p, q, hA0, hV, rfl, hfz, hnd⟩ := hW
  have hA : DataW.TrodAll enc Try.prog W 0 (fun _ => true) true Try.f5.params.toList args.toList ds p := hA0
  rw [Try.params5] at hA hval
  obtain ⟨v0, vs0, d0, ds0, p0, q0, hargs, rfl, rfl, h0, r0⟩ := trodAll_cons hA
  obtain ⟨rfl, rfl, rfl⟩ := trodAll_nil r0
  obtain rfl : args = #[v0] := by cases args; simp_all
  obtain ⟨rfl, rfl⟩ := trodVars_none hV
  have k0 := h0
  have lt0 : ∀ x ∈ p0, x.block < W.heap.size := by obtain ⟨m, hm⟩ := k0; exact DataW.trod_lt m _ _ _ hm
  obtain ⟨cs0, rfl, z0⟩ := okWide_struct Try.underlying25 (hval 0 25 v0 rfl rfl)
  obtain ⟨fuel0, hf0⟩ := h0
  obtain ⟨⟨l0_0, l0_1⟩, K0, o0⟩ := (opens_struct2 Try.underlying25 (opens_slice Try.underlying22 (by kernel_rfl) (opens_int Try.underlying3)) (opens_slice Try.underlying23 (by kernel_rfl) opens27) rfl rfl (by kernel_rfl) (by kernel_rfl) (by kernel_rfl)) enc W _ _ _ hf0
  obtain ⟨_, _, e0, ⟨A0_0, c0_0, rfl, hc0_0, hr0_0⟩, ⟨A0_1, c0_1, rfl, hc0_1, hr0_1⟩⟩ := K0
  obtain rfl : cs0 = #[.slice A0_0 l0_0.length c0_0, .slice A0_1 l0_1.length c0_1] := by cases cs0; simpa [Value.cells] using e0
  obtain ⟨o0_0, o0_1⟩ := o0
  obtain ⟨k, h⟩ := Pure.FnExactNeedlessBlocks_pure l0_0 l0_1 hr0_0.2.1 hr0_1.2.1 o0_0 o0_1
  refine (laws_FnExactNeedlessBlocks.calls k A0_0 c0_0 l0_0 A0_1 c0_1 l0_1 true W hr0_0 hc0_0 hr0_1 hc0_1 h).mono fun e W' hpost => ?_
  obtain ⟨he, bel⟩ := hpost
  subst he
  exact ⟨_, rfl, _, _, _, [], _, [], hW', trodAll_mk1 (shut_bool Try.underlying4 _), (trodAll_cons_mk (Below.trod laidOut (by kernel_rfl) (of_decide_eq_true (by kernel_rfl)) k0 bel lt0) trodAll_mk0), rfl, bel.frame _, fun h => by cases h⟩
theorem over : Rows.fnExactNeedlessBlocksRow.holds Try.pinned (OpenSpec.ofChange Rows.fnExactNeedlessBlocksSpec) :=
  OpenClaim.holds_of_wide 5 Try.f5 rfl rfl rfl rfl rfl rfl rfl ⟨rfl, rfl, rfl, rfl, rfl⟩ rfl rfl rfl rfl rfl (by kernel_rfl) Try.func5 (by kernel_rfl)
    (of_decide_eq_true (by kernel_rfl)) (by unfold Func.isWrapper; first | (rw [if_pos (by decide +kernel)]; kernel_rfl) | (rw [if_neg (by decide +kernel)]; exact ⟨rfl, rfl⟩))
    (fun os started H enc _ => lifted os started H enc)
theorem proved : Rows.FnExactNeedlessBlocksSaid := over
#print axioms proved
end Go.Proofs.Ytpjdlobkeafacaa.fnExactNeedlessBlocks
namespace Go.Proofs.Ytpjdlobkeafacaa
/-- The row, under a short name, for the claim. -/
theorem fnExactNeedlessBlocks_holds : Rows.FnExactNeedlessBlocksSaid := fnExactNeedlessBlocks.proved
end Go.Proofs.Ytpjdlobkeafacaa
