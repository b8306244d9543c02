/- The row of the law FnLampsTickOfAll: for every input the law returns true and its arguments read as before; out of the pure statement and the walk. -/
import Derived.Test.YtifdgebdkhdmhaaDoorCards
import Derived.Test.YtifdgebdkhdmhaaDoorTie
import Derived.LaidMore
import Derived.Lay
import Derived.SevenTiedAt
import Derived.Stop.Joined
import Derived.MakeChecks
import Derived.Test.YtifdgebdkhdmhaaDoorRows
import Derived.Test.YtifdgebdkhdmhaaDoorQPLTickOfAllx9
import Derived.Test.YtifdgebdkhdmhaaDoorQPureFnLampsTickOfAll
import Derived.Test.YtifdgebdkhdmhaaDoorQOpens
import Derived.WalkKit
import Derived.ProofKit
import Derived.OpenShut
import Derived.ShutString
import Derived.ChangeOld
import Derived.Below
import Derived.SizedLaws
import Derived.Lib.SmallJoins
namespace Go.Proofs.YtifdgebdkhdmhaaDoor.fnLampsTickOfAll
open Go.ChangeShapes Go.WideShapes Go.ChangeAt Go.RowKit Go.Proofs.YtifdgebdkhdmhaaDoor.PLTickOfAll Go.Proofs.YtifdgebdkhdmhaaDoorW.PrintWords
open Go.ChangeMaps (open_string shut_string)
set_option linter.unusedVariables false
theorem own : ownKnob Tryd.prog.godebug = none := by kernel_rfl
theorem laidOut : laidOutB Tryd.prog = true := by kernel_rfl
set_option maxRecDepth 100000 in
theorem lifted (os : Os) (started : os.Started) (H : Type) (enc : TypeId × Value → H) :
    ReturnsInHanded {} Tryd.checked os 5 .any (fun w args => (Rows.fnLampsTickOfAllSpec.pre enc Tryd.prog Tryd.f5 Rows.fnLampsTickOfAllRow.domain false w args ∧ laidMetH Tryd.prog Rows.fnLampsTickOfAllRow.laid w) ∧ sizedMet enc Tryd.prog Tryd.f5 (OpenSpec.ofChange Rows.fnLampsTickOfAllSpec) false w args) (Rows.fnLampsTickOfAllSpec.post enc Tryd.prog Tryd.f5 false true false false) := by
  refine returnsInHanded_of_change_and (C := Tryd.checked) (X := fun w _ => laidMetH Tryd.prog Rows.fnLampsTickOfAllRow.laid w) (fun _ _ _ hh h => h.of_heap hh) own started (by kernel_rfl) Tryd.func5
    (ChangeSpec.witness_shaped (enc := enc) (C := Tryd.checked) (os := os) (X := fun w _ => laidMetH Tryd.prog Rows.fnLampsTickOfAllRow.laid w) false (World.laidAll Tryd.prog os Rows.fnLampsTickOfAllRow.laid) #[.agg #[.slice none 0 0], .string ByteArray.empty, .int .i64 0, .agg #[.slice none 0 0], .string ByteArray.empty, .agg #[.slice none 0 0], .string ByteArray.empty, .int .i64 0] 8 (World.laidAll_os _ _ _)
      (World.shaped_of_ZipB (by kernel_rfl) (by kernel_rfl)) (by kernel_rfl) (by kernel_rfl) (by kernel_rfl)
      (by rw [MakeChecks.laidMetH_plain _ _ _ (by kernel_rfl)]; exact laidMet_laidAll _ (by kernel_rfl) (by kernel_rfl))) ?_
  intro W base args ds gs before hval0 hW hcnd _ hL hsz0
  have hval : ∀ (j : Nat) t v, Tryd.f5.params[j]? = some t → args[j]? = some v → Value.okWide Tryd.prog W .any base t v := hval0
  have hW' := hW
  obtain ⟨p, q, hA0, hV, rfl, hfz, hnd⟩ := hW
  have hA : DataW.TrodAll enc Tryd.prog W 0 (fun _ => true) true Tryd.f5.params.toList args.toList ds p := hA0
  rw [Tryd.params5] at hA hval
  obtain ⟨v0, vs0, d0, ds0, p0, q0, hargs, rfl, rfl, h0, r0⟩ := trodAll_cons hA
  obtain ⟨v1, vs1, d1, ds1, p1, q1, rfl, rfl, rfl, h1, r1⟩ := trodAll_cons r0
  obtain ⟨v2, vs2, d2, ds2, p2, q2, rfl, rfl, rfl, h2, r2⟩ := trodAll_cons r1
  obtain ⟨v3, vs3, d3, ds3, p3, q3, rfl, rfl, rfl, h3, r3⟩ := trodAll_cons r2
  obtain ⟨v4, vs4, d4, ds4, p4, q4, rfl, rfl, rfl, h4, r4⟩ := trodAll_cons r3
  obtain ⟨v5, vs5, d5, ds5, p5, q5, rfl, rfl, rfl, h5, r5⟩ := trodAll_cons r4
  obtain ⟨v6, vs6, d6, ds6, p6, q6, rfl, rfl, rfl, h6, r6⟩ := trodAll_cons r5
  obtain ⟨v7, vs7, d7, ds7, p7, q7, rfl, rfl, rfl, h7, r7⟩ := trodAll_cons r6
  obtain ⟨rfl, rfl, rfl⟩ := trodAll_nil r7
  obtain rfl : args = #[v0, v1, v2, v3, v4, v5, v6, v7] := by cases args; simp_all
  obtain ⟨rfl, rfl⟩ := trodVars_none hV
  have k0 := h0
  have lt0 : ∀ x ∈ p0, x.block < W.heap.size := by obtain ⟨m, hm⟩ := k0; exact DataW.trod_lt m _ _ _ hm
  obtain ⟨cs0, rfl, z0⟩ := okWide_struct Tryd.underlying29 (hval 0 29 v0 rfl rfl)
  obtain ⟨fuel0, hf0⟩ := h0
  obtain ⟨l0_0, K0, o0⟩ := (opens_struct1 Tryd.underlying29 (opens_slice Tryd.underlying22 (by kernel_rfl) (opens_string Tryd.underlying9)) rfl (by kernel_rfl) (by kernel_rfl)) enc W _ _ _ hf0
  obtain ⟨A0_0, c0_0, e0, hc0_0, hr0_0⟩ := K0
  obtain rfl : cs0 = #[.slice A0_0 _ c0_0] := by cases cs0; simpa [Value.cells] using e0
  have o0_0 := o0
  have k1 := h1
  have lt1 : ∀ x ∈ p1, x.block < W.heap.size := by obtain ⟨m, hm⟩ := k1; exact DataW.trod_lt m _ _ _ hm
  obtain ⟨a1, rfl, _, _, o1⟩ := open_string Tryd.underlying9 (hval 1 9 v1 rfl rfl) h1
  have k2 := h2
  have lt2 : ∀ x ∈ p2, x.block < W.heap.size := by obtain ⟨m, hm⟩ := k2; exact DataW.trod_lt m _ _ _ hm
  obtain ⟨a2, rfl, _, _, o2⟩ := open_int Tryd.underlying3 (hval 2 3 v2 rfl rfl) h2
  have k3 := h3
  have lt3 : ∀ x ∈ p3, x.block < W.heap.size := by obtain ⟨m, hm⟩ := k3; exact DataW.trod_lt m _ _ _ hm
  obtain ⟨cs3, rfl, z3⟩ := okWide_struct Tryd.underlying29 (hval 3 29 v3 rfl rfl)
  obtain ⟨fuel3, hf3⟩ := h3
  obtain ⟨l3_0, K3, o3⟩ := (opens_struct1 Tryd.underlying29 (opens_slice Tryd.underlying22 (by kernel_rfl) (opens_string Tryd.underlying9)) rfl (by kernel_rfl) (by kernel_rfl)) enc W _ _ _ hf3
  obtain ⟨A3_0, c3_0, e3, hc3_0, hr3_0⟩ := K3
  obtain rfl : cs3 = #[.slice A3_0 _ c3_0] := by cases cs3; simpa [Value.cells] using e3
  have o3_0 := o3
  have k4 := h4
  have lt4 : ∀ x ∈ p4, x.block < W.heap.size := by obtain ⟨m, hm⟩ := k4; exact DataW.trod_lt m _ _ _ hm
  obtain ⟨a4, rfl, _, _, o4⟩ := open_string Tryd.underlying9 (hval 4 9 v4 rfl rfl) h4
  have k5 := h5
  have lt5 : ∀ x ∈ p5, x.block < W.heap.size := by obtain ⟨m, hm⟩ := k5; exact DataW.trod_lt m _ _ _ hm
  obtain ⟨cs5, rfl, z5⟩ := okWide_struct Tryd.underlying29 (hval 5 29 v5 rfl rfl)
  obtain ⟨fuel5, hf5⟩ := h5
  obtain ⟨l5_0, K5, o5⟩ := (opens_struct1 Tryd.underlying29 (opens_slice Tryd.underlying22 (by kernel_rfl) (opens_string Tryd.underlying9)) rfl (by kernel_rfl) (by kernel_rfl)) enc W _ _ _ hf5
  obtain ⟨A5_0, c5_0, e5, hc5_0, hr5_0⟩ := K5
  obtain rfl : cs5 = #[.slice A5_0 _ c5_0] := by cases cs5; simpa [Value.cells] using e5
  have o5_0 := o5
  have k6 := h6
  have lt6 : ∀ x ∈ p6, x.block < W.heap.size := by obtain ⟨m, hm⟩ := k6; exact DataW.trod_lt m _ _ _ hm
  obtain ⟨a6, rfl, _, _, o6⟩ := open_string Tryd.underlying9 (hval 6 9 v6 rfl rfl) h6
  have k7 := h7
  have lt7 : ∀ x ∈ p7, x.block < W.heap.size := by obtain ⟨m, hm⟩ := k7; exact DataW.trod_lt m _ _ _ hm
  obtain ⟨a7, rfl, _, _, o7⟩ := open_int Tryd.underlying3 (hval 7 3 v7 rfl rfl) h7
  obtain ⟨k, h⟩ := Pure.FnLampsTickOfAll_pure l0_0 a1 a2 l3_0 a4 l5_0 a6 a7 hr0_0.2.1 hr3_0.2.1 hr5_0.2.1 o0_0 o1 o2 o3_0 o4 o5_0 o6 o7
  refine (laws_FnLampsTickOfAll.calls k A0_0 c0_0 l0_0 a1 a2 A3_0 c3_0 l3_0 a4 A5_0 c5_0 l5_0 a6 a7 true W hr0_0 hc0_0 hr3_0 hc3_0 hr5_0 hc5_0 h).mono fun e W' hpost => ?_
  obtain ⟨he, bel⟩ := hpost
  subst he
  exact ⟨_, rfl, _, _, _, [], _, [], hW', trodAll_mk1 (shut_bool Tryd.underlying4 _), (trodAll_cons_mk (Below.trod laidOut (by kernel_rfl) (of_decide_eq_true (by kernel_rfl)) k0 bel lt0) (trodAll_cons_mk (Below.trod laidOut (by kernel_rfl) (of_decide_eq_true (by kernel_rfl)) k1 bel lt1) (trodAll_cons_mk (Below.trod laidOut (by kernel_rfl) (of_decide_eq_true (by kernel_rfl)) k2 bel lt2) (trodAll_cons_mk (Below.trod laidOut (by kernel_rfl) (of_decide_eq_true (by kernel_rfl)) k3 bel lt3) (trodAll_cons_mk (Below.trod laidOut (by kernel_rfl) (of_decide_eq_true (by kernel_rfl)) k4 bel lt4) (trodAll_cons_mk (Below.trod laidOut (by kernel_rfl) (of_decide_eq_true (by kernel_rfl)) k5 bel lt5) (trodAll_cons_mk (Below.trod laidOut (by kernel_rfl) (of_decide_eq_true (by kernel_rfl)) k6 bel lt6) (trodAll_cons_mk (Below.trod laidOut (by kernel_rfl) (of_decide_eq_true (by kernel_rfl)) k7 bel lt7) trodAll_mk0)))))))), rfl, bel.frame _, fun h => by cases h⟩
theorem over : Rows.fnLampsTickOfAllRow.holds Tryd.pinned (OpenSpec.ofChange Rows.fnLampsTickOfAllSpec) :=
  OpenClaim.holds_of_wide 5 Tryd.f5 rfl rfl rfl rfl rfl rfl rfl ⟨rfl, rfl, rfl, rfl, rfl⟩ rfl rfl rfl rfl rfl (by kernel_rfl) Tryd.func5 (by kernel_rfl)
    (of_decide_eq_true (by kernel_rfl)) (by unfold Func.isWrapper; first | (rw [if_pos (by decide +kernel)]; kernel_rfl) | (rw [if_neg (by decide +kernel)]; exact ⟨rfl, rfl⟩))
    (fun os started H enc _ => lifted os started H enc)
theorem proved : Rows.FnLampsTickOfAllSaid := over
theorem card : Rows.FnLampsTickOfAllCardSaid :=
  Claim7.holds_tied_plain_at .later [] [.data, .pinned] true (true, "fcd2132326d098ab171493dc9f9c0b71b0216007aa0e6a450c7485e7799c3308") true proved (fun _ h => by cases h) (by kernel_rfl) (fun _ h => by cases h) fnLampsTickOfAll_row_tie rfl ⟨rfl, rfl⟩ (by kernel_rfl) rfl
    (fun f fn hf hfn => by
      obtain rfl : f = 5 := Option.some.inj ((show Tryd.prog.funcNamed "loop.example/g01314/laws.FnLampsTickOfAll" = some 5 by kernel_rfl).symm.trans hf) |>.symm
      obtain rfl : fn = Tryd.f5 := (Option.some.inj (Tryd.func5.symm.trans hfn)).symm
      exact ⟨by kernel_rfl, fun j t ht => by
        rw [Tryd.params5] at ht
        have hm : t ∈ [29, 9, 3, 29, 9, 29, 9, 3] := by simpa using Array.mem_of_getElem? ht
        have hall : ([29, 9, 3, 29, 9, 29, 9, 3].all fun u => !Tryd.prog.wantsStandIn u) = true := by kernel_rfl
        exact (show Tryd.prog.wantsStandIn t = false by simpa using List.all_eq_true.1 hall t hm)⟩)
    (by kernel_rfl)
#print axioms card
#print axioms proved
end Go.Proofs.YtifdgebdkhdmhaaDoor.fnLampsTickOfAll
namespace Go.Proofs.YtifdgebdkhdmhaaDoor
/-- The row, under a short name, for the claim. -/
theorem fnLampsTickOfAll_holds : Rows.FnLampsTickOfAllCardSaid := fnLampsTickOfAll.card
end Go.Proofs.YtifdgebdkhdmhaaDoor
