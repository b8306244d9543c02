/- The row of the law FnExactCyclesOfLamps: for every input the law returns true and its arguments read as before; out of the pure statement and the walk. -/
import Derived.Test.YtafkcmohbgcknaaDoorCards
import Derived.Test.YtafkcmohbgcknaaDoorTie
import Derived.LaidMore
import Derived.Lay
import Derived.SevenTiedAt
import Derived.Stop.Joined
import Derived.MakeChecks
import Derived.Test.YtafkcmohbgcknaaDoorRows
import Derived.Test.YtafkcmohbgcknaaDoorPCycx8
import Derived.Test.YtafkcmohbgcknaaDoorPureFnExactCyclesOfLamps
import Derived.Test.YtafkcmohbgcknaaDoorOpens
import Derived.WalkKit
import Derived.ProofKit
import Derived.OpenShut
import Derived.ShutString
import Derived.ChangeOld
import Derived.Below
import Derived.SizedLaws
import Derived.Lib.SmallJoins
namespace Go.Proofs.YtafkcmohbgcknaaDoor.fnExactCyclesOfLamps
open Go.ChangeShapes Go.WideShapes Go.ChangeAt Go.RowKit Go.Proofs.YtafkcmohbgcknaaDoor.PCyc Go.Proofs.YtafkcmohbgcknaaDoorW.PrintWords
open Go.ChangeMaps (open_string shut_string)
set_option linter.unusedVariables false
theorem own : ownKnob Tryd.prog.godebug = none := by kernel_rfl
theorem laidOut : laidOutB Tryd.prog = true := by kernel_rfl
set_option maxRecDepth 100000 in
theorem lifted (os : Os) (started : os.Started) (H : Type) (enc : TypeId × Value → H) :
    ReturnsInHanded {} Tryd.checked os 3 .any (fun w args => (Rows.fnExactCyclesOfLampsSpec.pre enc Tryd.prog Tryd.f3 Rows.fnExactCyclesOfLampsRow.domain false w args ∧ laidMetH Tryd.prog Rows.fnExactCyclesOfLampsRow.laid w) ∧ sizedMet enc Tryd.prog Tryd.f3 (OpenSpec.ofChange Rows.fnExactCyclesOfLampsSpec) false w args) (Rows.fnExactCyclesOfLampsSpec.post enc Tryd.prog Tryd.f3 false true false false) := by
  refine returnsInHanded_of_change_and (C := Tryd.checked) (X := fun w _ => laidMetH Tryd.prog Rows.fnExactCyclesOfLampsRow.laid w) (fun _ _ _ hh h => h.of_heap hh) own started (by kernel_rfl) Tryd.func3
    (ChangeSpec.witness_shaped (enc := enc) (C := Tryd.checked) (os := os) (X := fun w _ => laidMetH Tryd.prog Rows.fnExactCyclesOfLampsRow.laid w) false (World.laidAll Tryd.prog os Rows.fnExactCyclesOfLampsRow.laid) #[.agg #[.slice none 0 0]] 8 (World.laidAll_os _ _ _)
      (World.shaped_of_ZipB (by kernel_rfl) (by kernel_rfl)) (by kernel_rfl) (by kernel_rfl) (by kernel_rfl)
      (by rw [MakeChecks.laidMetH_plain _ _ _ (by kernel_rfl)]; exact laidMet_laidAll _ (by kernel_rfl) (by kernel_rfl))) ?_
  intro W base args ds gs before hval0 hW hcnd _ hL hsz0
  have hval : ∀ (j : Nat) t v, Tryd.f3.params[j]? = some t → args[j]? = some v → Value.okWide Tryd.prog W .any base t v := hval0
  have hW' := hW
  obtain ⟨p, q, hA0, hV, rfl, hfz, hnd⟩ := hW
  have hA : DataW.TrodAll enc Tryd.prog W 0 (fun _ => true) true Tryd.f3.params.toList args.toList ds p := hA0
  rw [Tryd.params3] at hA hval
  obtain ⟨v0, vs0, d0, ds0, p0, q0, hargs, rfl, rfl, h0, r0⟩ := trodAll_cons hA
  obtain ⟨rfl, rfl, rfl⟩ := trodAll_nil r0
  obtain rfl : args = #[v0] := by cases args; simp_all
  obtain ⟨rfl, rfl⟩ := trodVars_none hV
  have k0 := h0
  have lt0 : ∀ x ∈ p0, x.block < W.heap.size := by obtain ⟨m, hm⟩ := k0; exact DataW.trod_lt m _ _ _ hm
  obtain ⟨cs0, rfl, z0⟩ := okWide_struct Tryd.underlying24 (hval 0 24 v0 rfl rfl)
  obtain ⟨fuel0, hf0⟩ := h0
  obtain ⟨l0_0, K0, o0⟩ := (opens_struct1 Tryd.underlying24 (opens_slice Tryd.underlying22 (by kernel_rfl) (opens_string Tryd.underlying9)) rfl (by kernel_rfl) (by kernel_rfl)) enc W _ _ _ hf0
  obtain ⟨A0_0, c0_0, e0, hc0_0, hr0_0⟩ := K0
  obtain rfl : cs0 = #[.slice A0_0 _ c0_0] := by cases cs0; simpa [Value.cells] using e0
  have o0_0 := o0
  obtain ⟨k, h⟩ := Pure.FnExactCyclesOfLamps_pure l0_0 hr0_0.2.1 o0_0
  refine (laws_FnExactCyclesOfLamps.calls k A0_0 c0_0 l0_0 true W hr0_0 hc0_0 h).mono fun e W' hpost => ?_
  obtain ⟨he, bel⟩ := hpost
  subst he
  exact ⟨_, rfl, _, _, _, [], _, [], hW', trodAll_mk1 (shut_bool Tryd.underlying4 _), (trodAll_cons_mk (Below.trod laidOut (by kernel_rfl) (of_decide_eq_true (by kernel_rfl)) k0 bel lt0) trodAll_mk0), rfl, bel.frame _, fun h => by cases h⟩
theorem over : Rows.fnExactCyclesOfLampsRow.holds Tryd.pinned (OpenSpec.ofChange Rows.fnExactCyclesOfLampsSpec) :=
  OpenClaim.holds_of_wide 3 Tryd.f3 rfl rfl rfl rfl rfl rfl rfl ⟨rfl, rfl, rfl, rfl, rfl⟩ rfl rfl rfl rfl rfl (by kernel_rfl) Tryd.func3 (by kernel_rfl)
    (of_decide_eq_true (by kernel_rfl)) (by unfold Func.isWrapper; first | (rw [if_pos (by decide +kernel)]; kernel_rfl) | (rw [if_neg (by decide +kernel)]; exact ⟨rfl, rfl⟩))
    (fun os started H enc _ => lifted os started H enc)
theorem proved : Rows.FnExactCyclesOfLampsSaid := over
theorem card : Rows.FnExactCyclesOfLampsCardSaid :=
  Claim7.holds_tied_plain_at .later [] [.data, .pinned] true (true, "fc6d00f5ce100c45676c3a99f0d9630f86c095874ef5bd3df6c2c872b2b1d771") false proved (fun _ h => by cases h) (by kernel_rfl) (fun _ h => by cases h) fnExactCyclesOfLamps_row_tie rfl ⟨rfl, rfl⟩ (by kernel_rfl) rfl
    (fun f fn hf hfn => by
      obtain rfl : f = 3 := Option.some.inj ((show Tryd.prog.funcNamed "loop.example/g01314/laws.FnExactCyclesOfLamps" = some 3 by kernel_rfl).symm.trans hf) |>.symm
      obtain rfl : fn = Tryd.f3 := (Option.some.inj (Tryd.func3.symm.trans hfn)).symm
      exact ⟨by kernel_rfl, fun j t ht => by
        rw [Tryd.params3] at ht
        have hm : t ∈ [24] := by simpa using Array.mem_of_getElem? ht
        have hall : ([24].all fun u => !Tryd.prog.wantsStandIn u) = true := by kernel_rfl
        exact (show Tryd.prog.wantsStandIn t = false by simpa using List.all_eq_true.1 hall t hm)⟩)
    (by kernel_rfl)
#print axioms card
#print axioms proved
end Go.Proofs.YtafkcmohbgcknaaDoor.fnExactCyclesOfLamps
namespace Go.Proofs.YtafkcmohbgcknaaDoor
/-- The row, under a short name, for the claim. -/
theorem fnExactCyclesOfLamps_holds : Rows.FnExactCyclesOfLampsCardSaid := fnExactCyclesOfLamps.card
end Go.Proofs.YtafkcmohbgcknaaDoor
