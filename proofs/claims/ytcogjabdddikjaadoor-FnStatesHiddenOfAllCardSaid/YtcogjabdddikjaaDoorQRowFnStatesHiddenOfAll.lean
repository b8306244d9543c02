/- The row of the law FnStatesHiddenOfAll: for every input the law returns true and its arguments read as before; out of the pure statement and the walk. -/
import Derived.Test.YtcogjabdddikjaaDoorCards
import Derived.Test.YtcogjabdddikjaaDoorTie
import Derived.LaidMore
import Derived.Lay
import Derived.SevenTiedAt
import Derived.Stop.Joined
import Derived.MakeChecks
import Derived.Test.YtcogjabdddikjaaDoorRows
import Derived.Test.YtcogjabdddikjaaDoorQPHidAllx17
import Derived.Test.YtcogjabdddikjaaDoorQPureFnStatesHiddenOfAll
import Derived.Test.YtcogjabdddikjaaDoorQOpens
import Derived.WalkKit
import Derived.ProofKit
import Derived.OpenShut
import Derived.ShutString
import Derived.ChangeOld
import Derived.Below
import Derived.SizedLaws
import Derived.Lib.SmallJoins
namespace Go.Proofs.YtcogjabdddikjaaDoor.fnStatesHiddenOfAll
open Go.ChangeShapes Go.WideShapes Go.ChangeAt Go.RowKit Go.Proofs.YtcogjabdddikjaaDoor.PHidAll Go.Proofs.YtcogjabdddikjaaDoorW.PrintWords
open Go.ChangeMaps (open_string shut_string)
set_option linter.unusedVariables false
theorem opens59 : Opens Tryd.prog k59 59 (fun x => (Lit.int .i64 x.f0).wf = true ∧ (Lit.int .i64 x.f1).wf = true ∧ (Lit.int .i64 x.f2).wf = true) :=
  opens_iso (fun x : S59 => (x.f0, x.f1, x.f2)) (fun p => (⟨p.1, p.2.1, p.2.2⟩ : S59)) (fun _ => rfl) (opens_struct3 Tryd.underlying59 (opens_int Tryd.underlying3) (opens_int Tryd.underlying3) (opens_int Tryd.underlying3) rfl rfl rfl (by kernel_rfl) (by kernel_rfl) (by kernel_rfl) (by kernel_rfl))
theorem own : ownKnob Tryd.prog.godebug = none := by kernel_rfl
theorem laidOut : laidOutB Tryd.prog = true := by kernel_rfl
set_option maxRecDepth 100000 in
theorem lifted (os : Os) (started : os.Started) (H : Type) (enc : TypeId × Value → H) :
    ReturnsInHanded {} Tryd.checked os 5 .any (fun w args => (Rows.fnStatesHiddenOfAllSpec.pre enc Tryd.prog Tryd.f5 Rows.fnStatesHiddenOfAllRow.domain false w args ∧ laidMetH Tryd.prog Rows.fnStatesHiddenOfAllRow.laid w) ∧ sizedMet enc Tryd.prog Tryd.f5 (OpenSpec.ofChange Rows.fnStatesHiddenOfAllSpec) false w args) (Rows.fnStatesHiddenOfAllSpec.post enc Tryd.prog Tryd.f5 false true false false) := by
  refine returnsInHanded_of_change_and (C := Tryd.checked) (X := fun w _ => laidMetH Tryd.prog Rows.fnStatesHiddenOfAllRow.laid w) (fun _ _ _ hh h => h.of_heap hh) own started (by kernel_rfl) Tryd.func5
    (ChangeSpec.witness_shaped (enc := enc) (C := Tryd.checked) (os := os) (X := fun w _ => laidMetH Tryd.prog Rows.fnStatesHiddenOfAllRow.laid w) false (World.laidAll Tryd.prog os Rows.fnStatesHiddenOfAllRow.laid) #[.string ByteArray.empty, .int .i64 0, .int .i64 0, .agg #[.int .i64 0, .slice none 0 0], .agg #[.int .i64 0, .slice none 0 0], .agg #[.int .i64 0, .int .i64 0, .int .i64 0], .agg #[.int .i64 0, .slice none 0 0], .int .i64 0, .agg #[.int .i64 0, .int .i64 0, .int .i64 0], .string ByteArray.empty, .int .i64 0, .agg #[.int .i64 0, .int .i64 0, .int .i64 0]] 8 (World.laidAll_os _ _ _)
      (World.shaped_of_ZipB (by kernel_rfl) (by kernel_rfl)) (by kernel_rfl) (by kernel_rfl) (by kernel_rfl)
      (by rw [MakeChecks.laidMetH_plain _ _ _ (by kernel_rfl)]; exact laidMet_laidAll _ (by kernel_rfl) (by kernel_rfl))) ?_
  intro W base args ds gs before hval0 hW hcnd _ hL hsz0
  have hval : ∀ (j : Nat) t v, Tryd.f5.params[j]? = some t → args[j]? = some v → Value.okWide Tryd.prog W .any base t v := hval0
  have hW' := hW
  obtain ⟨p, q, hA0, hV, rfl, hfz, hnd⟩ := hW
  have hA : DataW.TrodAll enc Tryd.prog W 0 (fun _ => true) true Tryd.f5.params.toList args.toList ds p := hA0
  rw [Tryd.params5] at hA hval
  obtain ⟨v0, vs0, d0, ds0, p0, q0, hargs, rfl, rfl, h0, r0⟩ := trodAll_cons hA
  obtain ⟨v1, vs1, d1, ds1, p1, q1, rfl, rfl, rfl, h1, r1⟩ := trodAll_cons r0
  obtain ⟨v2, vs2, d2, ds2, p2, q2, rfl, rfl, rfl, h2, r2⟩ := trodAll_cons r1
  obtain ⟨v3, vs3, d3, ds3, p3, q3, rfl, rfl, rfl, h3, r3⟩ := trodAll_cons r2
  obtain ⟨v4, vs4, d4, ds4, p4, q4, rfl, rfl, rfl, h4, r4⟩ := trodAll_cons r3
  obtain ⟨v5, vs5, d5, ds5, p5, q5, rfl, rfl, rfl, h5, r5⟩ := trodAll_cons r4
  obtain ⟨v6, vs6, d6, ds6, p6, q6, rfl, rfl, rfl, h6, r6⟩ := trodAll_cons r5
  obtain ⟨v7, vs7, d7, ds7, p7, q7, rfl, rfl, rfl, h7, r7⟩ := trodAll_cons r6
  obtain ⟨v8, vs8, d8, ds8, p8, q8, rfl, rfl, rfl, h8, r8⟩ := trodAll_cons r7
  obtain ⟨v9, vs9, d9, ds9, p9, q9, rfl, rfl, rfl, h9, r9⟩ := trodAll_cons r8
  obtain ⟨v10, vs10, d10, ds10, p10, q10, rfl, rfl, rfl, h10, r10⟩ := trodAll_cons r9
  obtain ⟨v11, vs11, d11, ds11, p11, q11, rfl, rfl, rfl, h11, r11⟩ := trodAll_cons r10
  obtain ⟨rfl, rfl, rfl⟩ := trodAll_nil r11
  obtain rfl : args = #[v0, v1, v2, v3, v4, v5, v6, v7, v8, v9, v10, v11] := by cases args; simp_all
  obtain ⟨rfl, rfl⟩ := trodVars_none hV
  have k0 := h0
  have lt0 : ∀ x ∈ p0, x.block < W.heap.size := by obtain ⟨m, hm⟩ := k0; exact DataW.trod_lt m _ _ _ hm
  obtain ⟨a0, rfl, _, _, o0⟩ := open_string Tryd.underlying9 (hval 0 9 v0 rfl rfl) h0
  have k1 := h1
  have lt1 : ∀ x ∈ p1, x.block < W.heap.size := by obtain ⟨m, hm⟩ := k1; exact DataW.trod_lt m _ _ _ hm
  obtain ⟨a1, rfl, _, _, o1⟩ := open_int Tryd.underlying3 (hval 1 3 v1 rfl rfl) h1
  have k2 := h2
  have lt2 : ∀ x ∈ p2, x.block < W.heap.size := by obtain ⟨m, hm⟩ := k2; exact DataW.trod_lt m _ _ _ hm
  obtain ⟨a2, rfl, _, _, o2⟩ := open_int Tryd.underlying3 (hval 2 3 v2 rfl rfl) h2
  have k3 := h3
  have lt3 : ∀ x ∈ p3, x.block < W.heap.size := by obtain ⟨m, hm⟩ := k3; exact DataW.trod_lt m _ _ _ hm
  obtain ⟨cs3, rfl, z3⟩ := okWide_struct Tryd.underlying57 (hval 3 57 v3 rfl rfl)
  obtain ⟨fuel3, hf3⟩ := h3
  obtain ⟨⟨a3_0, l3_1⟩, K3, o3⟩ := (opens_struct2 Tryd.underlying57 (opens_int Tryd.underlying3) (opens_slice Tryd.underlying55 (by kernel_rfl) opens59) rfl rfl (by kernel_rfl) (by kernel_rfl) (by kernel_rfl)) enc W _ _ _ hf3
  obtain ⟨_, _, e3, rfl, ⟨A3_1, c3_1, rfl, hc3_1, hr3_1⟩⟩ := K3
  obtain rfl : cs3 = #[.int .i64 a3_0, .slice A3_1 l3_1.length c3_1] := by cases cs3; simpa [Value.cells] using e3
  obtain ⟨o3_0, o3_1⟩ := o3
  have k4 := h4
  have lt4 : ∀ x ∈ p4, x.block < W.heap.size := by obtain ⟨m, hm⟩ := k4; exact DataW.trod_lt m _ _ _ hm
  obtain ⟨cs4, rfl, z4⟩ := okWide_struct Tryd.underlying57 (hval 4 57 v4 rfl rfl)
  obtain ⟨fuel4, hf4⟩ := h4
  obtain ⟨⟨a4_0, l4_1⟩, K4, o4⟩ := (opens_struct2 Tryd.underlying57 (opens_int Tryd.underlying3) (opens_slice Tryd.underlying55 (by kernel_rfl) opens59) rfl rfl (by kernel_rfl) (by kernel_rfl) (by kernel_rfl)) enc W _ _ _ hf4
  obtain ⟨_, _, e4, rfl, ⟨A4_1, c4_1, rfl, hc4_1, hr4_1⟩⟩ := K4
  obtain rfl : cs4 = #[.int .i64 a4_0, .slice A4_1 l4_1.length c4_1] := by cases cs4; simpa [Value.cells] using e4
  obtain ⟨o4_0, o4_1⟩ := o4
  have k5 := h5
  have lt5 : ∀ x ∈ p5, x.block < W.heap.size := by obtain ⟨m, hm⟩ := k5; exact DataW.trod_lt m _ _ _ hm
  obtain ⟨cs5, rfl, z5⟩ := okWide_struct Tryd.underlying59 (hval 5 59 v5 rfl rfl)
  obtain ⟨fuel5, hf5⟩ := h5
  obtain ⟨⟨a5_0, a5_1, a5_2⟩, K5, o5⟩ := (opens_struct3 Tryd.underlying59 (opens_int Tryd.underlying3) (opens_int Tryd.underlying3) (opens_int Tryd.underlying3) rfl rfl rfl (by kernel_rfl) (by kernel_rfl) (by kernel_rfl) (by kernel_rfl)) enc W _ _ _ hf5
  obtain ⟨_, _, e5, rfl, _, _, rfl, rfl, rfl⟩ := K5
  obtain rfl : cs5 = #[.int .i64 a5_0, .int .i64 a5_1, .int .i64 a5_2] := by cases cs5; simpa [Value.cells] using e5
  obtain ⟨o5_0, o5_1, o5_2⟩ := o5
  have k6 := h6
  have lt6 : ∀ x ∈ p6, x.block < W.heap.size := by obtain ⟨m, hm⟩ := k6; exact DataW.trod_lt m _ _ _ hm
  obtain ⟨cs6, rfl, z6⟩ := okWide_struct Tryd.underlying57 (hval 6 57 v6 rfl rfl)
  obtain ⟨fuel6, hf6⟩ := h6
  obtain ⟨⟨a6_0, l6_1⟩, K6, o6⟩ := (opens_struct2 Tryd.underlying57 (opens_int Tryd.underlying3) (opens_slice Tryd.underlying55 (by kernel_rfl) opens59) rfl rfl (by kernel_rfl) (by kernel_rfl) (by kernel_rfl)) enc W _ _ _ hf6
  obtain ⟨_, _, e6, rfl, ⟨A6_1, c6_1, rfl, hc6_1, hr6_1⟩⟩ := K6
  obtain rfl : cs6 = #[.int .i64 a6_0, .slice A6_1 l6_1.length c6_1] := by cases cs6; simpa [Value.cells] using e6
  obtain ⟨o6_0, o6_1⟩ := o6
  have k7 := h7
  have lt7 : ∀ x ∈ p7, x.block < W.heap.size := by obtain ⟨m, hm⟩ := k7; exact DataW.trod_lt m _ _ _ hm
  obtain ⟨a7, rfl, _, _, o7⟩ := open_int Tryd.underlying3 (hval 7 3 v7 rfl rfl) h7
  have k8 := h8
  have lt8 : ∀ x ∈ p8, x.block < W.heap.size := by obtain ⟨m, hm⟩ := k8; exact DataW.trod_lt m _ _ _ hm
  obtain ⟨cs8, rfl, z8⟩ := okWide_struct Tryd.underlying59 (hval 8 59 v8 rfl rfl)
  obtain ⟨fuel8, hf8⟩ := h8
  obtain ⟨⟨a8_0, a8_1, a8_2⟩, K8, o8⟩ := (opens_struct3 Tryd.underlying59 (opens_int Tryd.underlying3) (opens_int Tryd.underlying3) (opens_int Tryd.underlying3) rfl rfl rfl (by kernel_rfl) (by kernel_rfl) (by kernel_rfl) (by kernel_rfl)) enc W _ _ _ hf8
  obtain ⟨_, _, e8, rfl, _, _, rfl, rfl, rfl⟩ := K8
  obtain rfl : cs8 = #[.int .i64 a8_0, .int .i64 a8_1, .int .i64 a8_2] := by cases cs8; simpa [Value.cells] using e8
  obtain ⟨o8_0, o8_1, o8_2⟩ := o8
  have k9 := h9
  have lt9 : ∀ x ∈ p9, x.block < W.heap.size := by obtain ⟨m, hm⟩ := k9; exact DataW.trod_lt m _ _ _ hm
  obtain ⟨a9, rfl, _, _, o9⟩ := open_string Tryd.underlying9 (hval 9 9 v9 rfl rfl) h9
  have k10 := h10
  have lt10 : ∀ x ∈ p10, x.block < W.heap.size := by obtain ⟨m, hm⟩ := k10; exact DataW.trod_lt m _ _ _ hm
  obtain ⟨a10, rfl, _, _, o10⟩ := open_int Tryd.underlying3 (hval 10 3 v10 rfl rfl) h10
  have k11 := h11
  have lt11 : ∀ x ∈ p11, x.block < W.heap.size := by obtain ⟨m, hm⟩ := k11; exact DataW.trod_lt m _ _ _ hm
  obtain ⟨cs11, rfl, z11⟩ := okWide_struct Tryd.underlying59 (hval 11 59 v11 rfl rfl)
  obtain ⟨fuel11, hf11⟩ := h11
  obtain ⟨⟨a11_0, a11_1, a11_2⟩, K11, o11⟩ := (opens_struct3 Tryd.underlying59 (opens_int Tryd.underlying3) (opens_int Tryd.underlying3) (opens_int Tryd.underlying3) rfl rfl rfl (by kernel_rfl) (by kernel_rfl) (by kernel_rfl) (by kernel_rfl)) enc W _ _ _ hf11
  obtain ⟨_, _, e11, rfl, _, _, rfl, rfl, rfl⟩ := K11
  obtain rfl : cs11 = #[.int .i64 a11_0, .int .i64 a11_1, .int .i64 a11_2] := by cases cs11; simpa [Value.cells] using e11
  obtain ⟨o11_0, o11_1, o11_2⟩ := o11
  obtain ⟨k, h⟩ := Pure.FnStatesHiddenOfAll_pure a0 a1 a2 a3_0 l3_1 a4_0 l4_1 a5_0 a5_1 a5_2 a6_0 l6_1 a7 a8_0 a8_1 a8_2 a9 a10 a11_0 a11_1 a11_2 hr3_1.2.1 hr4_1.2.1 hr6_1.2.1 o0 o1 o2 o3_0 o3_1 o4_0 o4_1 o5_0 o5_1 o5_2 o6_0 o6_1 o7 o8_0 o8_1 o8_2 o9 o10 o11_0 o11_1 o11_2
  refine (laws_FnStatesHiddenOfAll.calls k a0 a1 a2 a3_0 A3_1 c3_1 l3_1 a4_0 A4_1 c4_1 l4_1 a5_0 a5_1 a5_2 a6_0 A6_1 c6_1 l6_1 a7 a8_0 a8_1 a8_2 a9 a10 a11_0 a11_1 a11_2 true W hr3_1 hc3_1 hr4_1 hc4_1 hr6_1 hc6_1 h).mono fun e W' hpost => ?_
  obtain ⟨he, bel⟩ := hpost
  subst he
  exact ⟨_, rfl, _, _, _, [], _, [], hW', trodAll_mk1 (shut_bool Tryd.underlying4 _), (trodAll_cons_mk (Below.trod laidOut (by kernel_rfl) (of_decide_eq_true (by kernel_rfl)) k0 bel lt0) (trodAll_cons_mk (Below.trod laidOut (by kernel_rfl) (of_decide_eq_true (by kernel_rfl)) k1 bel lt1) (trodAll_cons_mk (Below.trod laidOut (by kernel_rfl) (of_decide_eq_true (by kernel_rfl)) k2 bel lt2) (trodAll_cons_mk (Below.trod laidOut (by kernel_rfl) (of_decide_eq_true (by kernel_rfl)) k3 bel lt3) (trodAll_cons_mk (Below.trod laidOut (by kernel_rfl) (of_decide_eq_true (by kernel_rfl)) k4 bel lt4) (trodAll_cons_mk (Below.trod laidOut (by kernel_rfl) (of_decide_eq_true (by kernel_rfl)) k5 bel lt5) (trodAll_cons_mk (Below.trod laidOut (by kernel_rfl) (of_decide_eq_true (by kernel_rfl)) k6 bel lt6) (trodAll_cons_mk (Below.trod laidOut (by kernel_rfl) (of_decide_eq_true (by kernel_rfl)) k7 bel lt7) (trodAll_cons_mk (Below.trod laidOut (by kernel_rfl) (of_decide_eq_true (by kernel_rfl)) k8 bel lt8) (trodAll_cons_mk (Below.trod laidOut (by kernel_rfl) (of_decide_eq_true (by kernel_rfl)) k9 bel lt9) (trodAll_cons_mk (Below.trod laidOut (by kernel_rfl) (of_decide_eq_true (by kernel_rfl)) k10 bel lt10) (trodAll_cons_mk (Below.trod laidOut (by kernel_rfl) (of_decide_eq_true (by kernel_rfl)) k11 bel lt11) trodAll_mk0)))))))))))), rfl, bel.frame _, fun h => by cases h⟩
theorem over : Rows.fnStatesHiddenOfAllRow.holds Tryd.pinned (OpenSpec.ofChange Rows.fnStatesHiddenOfAllSpec) :=
  OpenClaim.holds_of_wide 5 Tryd.f5 rfl rfl rfl rfl rfl rfl rfl ⟨rfl, rfl, rfl, rfl, rfl⟩ rfl rfl rfl rfl rfl (by kernel_rfl) Tryd.func5 (by kernel_rfl)
    (of_decide_eq_true (by kernel_rfl)) (by unfold Func.isWrapper; first | (rw [if_pos (by decide +kernel)]; kernel_rfl) | (rw [if_neg (by decide +kernel)]; exact ⟨rfl, rfl⟩))
    (fun os started H enc _ => lifted os started H enc)
theorem proved : Rows.FnStatesHiddenOfAllSaid := over
theorem card : Rows.FnStatesHiddenOfAllCardSaid :=
  Claim7.holds_tied_plain_at .later [] [.data, .pinned] true (true, "a0471e2b0e77f204b9c855c855fc104406bc322480a801e419d11e264f17489f") false proved (fun _ h => by cases h) (by kernel_rfl) (fun _ h => by cases h) fnStatesHiddenOfAll_row_tie rfl ⟨rfl, rfl⟩ (by kernel_rfl) rfl
    (fun f fn hf hfn => by
      obtain rfl : f = 5 := Option.some.inj ((show Tryd.prog.funcNamed "loop.example/g01314/laws.FnStatesHiddenOfAll" = some 5 by kernel_rfl).symm.trans hf) |>.symm
      obtain rfl : fn = Tryd.f5 := (Option.some.inj (Tryd.func5.symm.trans hfn)).symm
      exact ⟨by kernel_rfl, fun j t ht => by
        rw [Tryd.params5] at ht
        have hm : t ∈ [9, 3, 3, 57, 57, 59, 57, 3, 59, 9, 3, 59] := by simpa using Array.mem_of_getElem? ht
        have hall : ([9, 3, 3, 57, 57, 59, 57, 3, 59, 9, 3, 59].all fun u => !Tryd.prog.wantsStandIn u) = true := by kernel_rfl
        exact (show Tryd.prog.wantsStandIn t = false by simpa using List.all_eq_true.1 hall t hm)⟩)
    (by kernel_rfl)
#print axioms card
#print axioms proved
end Go.Proofs.YtcogjabdddikjaaDoor.fnStatesHiddenOfAll
namespace Go.Proofs.YtcogjabdddikjaaDoor
/-- The row, under a short name, for the claim. -/
theorem fnStatesHiddenOfAll_holds : Rows.FnStatesHiddenOfAllCardSaid := fnStatesHiddenOfAll.card
end Go.Proofs.YtcogjabdddikjaaDoor
