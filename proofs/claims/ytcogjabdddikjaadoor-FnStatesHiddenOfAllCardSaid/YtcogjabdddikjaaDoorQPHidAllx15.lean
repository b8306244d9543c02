-- squeezed (sq3.py); PRINTED by drive.py (a program of this session's, over the kit's print.py; wip/tools/drive.py). Lean checks it.
import Derived.Test.YtcogjabdddikjaaDoorQPHidAllx0
import Derived.Test.YtcogjabdddikjaaDoorQPHidAllx6
import Derived.Test.YtcogjabdddikjaaDoorQPHidAllx9
import Derived.Test.YtcogjabdddikjaaDoorQPHidAllx11
import Derived.Test.YtcogjabdddikjaaDoorQSq
namespace Go.Proofs.YtcogjabdddikjaaDoor.PHidAll
open Go.RowKit Go.Proofs.YtcogjabdddikjaaDoorW.PrintWords Go.Proofs.YtcogjabdddikjaaDoorW.PrintLast Go.Proofs.YtcogjabdddikjaaDoorW.PrintMore
attribute [local go_sem] max2_int min2_int max_two min_two max_three min_three max_four min_four   -- for this text's walks alone
set_option linter.unusedVariables false
set_option linter.unusedSimpArgs false

/-! ### spec_DoesFit: function 65 -/
def spec_DoesFit.f (k : Nat) (a0_0 : Int) (a0_1 : Int) (a0_2 : Int) (a1 : ByteArray) : Option (Bool × Bool) := (spec_pzHidden.f k a1).bind fun t355 => (if t355 = true then ((spec_pzClue.f k (a1.size : Int) a0_0 a0_1 a0_2).bind fun t356 => (if t356 = true then ((spec_pzFits.f k a0_0 a0_1 a0_2 a1).bind fun t357 => (some (t357, true))) else (some (false, false)))) else (some (false, false)))
instance spec_DoesFit.mI (k : Nat) : Mo (spec_DoesFit.f k) (spec_DoesFit.f (k + 1)) := by
 (repeat refine mE fun _ => ?_); unfold spec_DoesFit.f; exact mG
theorem spec_DoesFit.mono : ∀ a0 a1 a2 a3 k, LeO (spec_DoesFit.f k a0 a1 a2 a3) (spec_DoesFit.f (k + 1) a0 a1 a2 a3) := fun a0 a1 a2 a3 k => (spec_DoesFit.mI k).out a0 a1 a2 a3
set_option maxHeartbeats 8000000 in
set_option maxRecDepth 100000 in
theorem spec_DoesFit.calls (k : Nat) (a0_0 : Int) (a0_1 : Int) (a0_2 : Int) (a1 : ByteArray) (r1 : Bool) (r2 : Bool) (w : World) (h : spec_DoesFit.f k a0_0 a0_1 a0_2 a1 = some (r1, r2)) :
  Calls Tryd.prog 65 #[.agg #[.int .i64 a0_0, .int .i64 a0_1, .int .i64 a0_2], .string a1] w fun e w' => e = .returned (.tuple #[.bool r1, .bool r2]) ∧ Below w.heap.size w w' := by
 have hu59 := Tryd.underlying59
 have HB := aM (Below.refl w.heap.size w)
 have H := h
 clear h; unfold spec_DoesFit.f at H
 replace H := bC H; obtain ⟨t355, A3, H⟩ := H
 refine iB H ?_ ?_ <;> clear H <;> rintro rfl H
 ·replace H := bC H; obtain ⟨t356, A5, H⟩ := H
  refine iB H ?_ ?_ <;> clear H <;> rintro rfl H
  ·replace H := bC H; obtain ⟨t357, A7, H⟩ := H
   simp only [Option.some.injEq, Prod.mk.injEq] at H
   obtain ⟨rfl, rfl⟩ := H
   go_enter Tryd.func65, Tryd.ntmps65
   go_wp2_with (first | ((with_reducible refine gate_dst (N := 2) rfl ?_); (try (refine gate_guard (by rfl) ?_; dsimp only)); refine bX (N := 2) rfl (cs := #[.int .i64 a0_0, .int .i64 a0_1, .int .i64 a0_2]) (t := 59) ?_; intro gb354 hg w8 BK354 hb; have GW354 := gE hg HB; have GE354 := gE hg HB; replace HB := hS HB hb; clear hb hg) | ((with_reducible refine gG 114 (some 7) rfl rfl ?_); refine gL Tryd.func114 #[.string a1] ?_; (with_reducible refine (spec_pzHidden.calls k a1 true _ A3.out).mono ?_); rintro e w' ⟨rfl, ⟨nd, rfl⟩⟩; refine ⟨_, rfl, ?_⟩; obtain ⟨hcz9_0, hcz9_1, hcz9_2, hfz9_0, hfz9_1, hfz9_2⟩ := hC3 BK354) | (go_at_call 127; (with_reducible refine (spec_pzClue.calls k (a1.size : Int) a0_0 a0_1 a0_2 true _ A5.out).mono ?_); rintro e w10 ⟨rfl, hb⟩; replace BK354 := bB BK354 hb; replace HB := hS HB hb; clear hb; obtain ⟨hcz11_0, hcz11_1, hcz11_2, hfz11_0, hfz11_1, hfz11_2⟩ := hC3 BK354) | ((with_reducible refine gG 128 (some 18) rfl rfl ?_); refine gC Tryd.func128 (spec_pzFits.calls k a0_0 a0_1 a0_2 a1 t357 _ A7.out) ?_; rintro w12 hb; replace BK354 := bB BK354 hb; replace HB := hS HB hb; clear hb))
   go_ret2
   exact ⟨eW, bel HB⟩
  simp only [Option.some.injEq, Prod.mk.injEq] at H
  obtain ⟨rfl, rfl⟩ := H
  go_enter Tryd.func65, Tryd.ntmps65
  go_wp2_with (first | ((with_reducible refine gate_dst (N := 2) rfl ?_); (try (refine gate_guard (by rfl) ?_; dsimp only)); refine bX (N := 2) rfl (cs := #[.int .i64 a0_0, .int .i64 a0_1, .int .i64 a0_2]) (t := 59) ?_; intro gb354 hg w13 BK354 hb; have GW354 := gE hg HB; have GE354 := gE hg HB; replace HB := hS HB hb; clear hb hg) | ((with_reducible refine gG 114 (some 7) rfl rfl ?_); refine gL Tryd.func114 #[.string a1] ?_; (with_reducible refine (spec_pzHidden.calls k a1 true _ A3.out).mono ?_); rintro e w' ⟨rfl, ⟨nd, rfl⟩⟩; refine ⟨_, rfl, ?_⟩; obtain ⟨hcz14_0, hcz14_1, hcz14_2, hfz14_0, hfz14_1, hfz14_2⟩ := hC3 BK354) | (go_at_call 127; (with_reducible refine (spec_pzClue.calls k (a1.size : Int) a0_0 a0_1 a0_2 false _ A5.out).mono ?_); rintro e w15 ⟨rfl, hb⟩; replace BK354 := bB BK354 hb; replace HB := hS HB hb; clear hb))
  go_ret2
  exact ⟨eW, bel HB⟩
 simp only [Option.some.injEq, Prod.mk.injEq] at H
 obtain ⟨rfl, rfl⟩ := H
 go_enter Tryd.func65, Tryd.ntmps65
 go_wp2_with (first | ((with_reducible refine gate_dst (N := 2) rfl ?_); (try (refine gate_guard (by rfl) ?_; dsimp only)); refine bX (N := 2) rfl (cs := #[.int .i64 a0_0, .int .i64 a0_1, .int .i64 a0_2]) (t := 59) ?_; intro gb354 hg w16 BK354 hb; have GW354 := gE hg HB; have GE354 := gE hg HB; replace HB := hS HB hb; clear hb hg) | ((with_reducible refine gG 114 (some 7) rfl rfl ?_); refine gL Tryd.func114 #[.string a1] ?_; (with_reducible refine (spec_pzHidden.calls k a1 false _ A3.out).mono ?_); rintro e w' ⟨rfl, ⟨nd, rfl⟩⟩; refine ⟨_, rfl, ?_⟩))
 go_ret2
 exact ⟨eW, bel HB⟩

/-! ### spec_IsClue: function 67 -/
def spec_IsClue.f (k : Nat) (a0 : Int) (a1_0 : Int) (a1_1 : Int) (a1_2 : Int) : Option (Bool) := (spec_pzRings.f a0).bind fun t359 => (if t359 = true then ((spec_pzClue.f k a0 a1_0 a1_1 a1_2).bind fun t360 => (some t360)) else (some false))
instance spec_IsClue.mI (k : Nat) : Mo (spec_IsClue.f k) (spec_IsClue.f (k + 1)) := by
 (repeat refine mE fun _ => ?_); unfold spec_IsClue.f; exact mG
theorem spec_IsClue.mono : ∀ a0 a1 a2 a3 k, LeO (spec_IsClue.f k a0 a1 a2 a3) (spec_IsClue.f (k + 1) a0 a1 a2 a3) := fun a0 a1 a2 a3 k => (spec_IsClue.mI k).out a0 a1 a2 a3
set_option maxHeartbeats 8000000 in
set_option maxRecDepth 100000 in
theorem spec_IsClue.calls (k : Nat) (a0 : Int) (a1_0 : Int) (a1_1 : Int) (a1_2 : Int) (r : Bool) (w : World) (h : spec_IsClue.f k a0 a1_0 a1_1 a1_2 = some r) :
  Calls Tryd.prog 67 #[.int .i64 a0, .agg #[.int .i64 a1_0, .int .i64 a1_1, .int .i64 a1_2]] w fun e w' => e = .returned (.bool r) ∧ Below w.heap.size w w' := by
 have hu59 := Tryd.underlying59
 have HB := aM (Below.refl w.heap.size w)
 have H := h
 clear h; unfold spec_IsClue.f at H
 replace H := bC H; obtain ⟨t359, A3, H⟩ := H
 refine iB H ?_ ?_ <;> clear H <;> rintro rfl H
 ·replace H := bC H; obtain ⟨t360, A5, H⟩ := H
  obtain rfl := Option.some.inj H
  go_enter Tryd.func67, Tryd.ntmps67
  go_wp2_with (first | (refine bX (N := 3) rfl (cs := #[.int .i64 a1_0, .int .i64 a1_1, .int .i64 a1_2]) (t := 59) ?_; intro gb358 hg w6 BK358 hb; have GW358 := gE hg HB; have GE358 := gE hg HB; replace HB := hS HB hb; clear hb hg) | ((with_reducible refine gG 129 (some 6) rfl rfl ?_); refine gL Tryd.func129 #[.int .i64 a0] ?_; (with_reducible refine (spec_pzRings.calls a0 true _ A3.out).mono ?_); rintro e w' ⟨rfl, ⟨nd, rfl⟩⟩; refine ⟨_, rfl, ?_⟩; obtain ⟨hcz7_0, hcz7_1, hcz7_2, hfz7_0, hfz7_1, hfz7_2⟩ := hC3 BK358) | (go_at_call 127; (with_reducible refine (spec_pzClue.calls k a0 a1_0 a1_1 a1_2 t360 _ A5.out).mono ?_); rintro e w8 ⟨rfl, hb⟩; replace BK358 := bB BK358 hb; replace HB := hS HB hb; clear hb))
  go_ret
  exact ⟨eW, bel HB⟩
 obtain rfl := Option.some.inj H
 go_enter Tryd.func67, Tryd.ntmps67
 go_wp2_with (first | (refine bX (N := 3) rfl (cs := #[.int .i64 a1_0, .int .i64 a1_1, .int .i64 a1_2]) (t := 59) ?_; intro gb358 hg w9 BK358 hb; have GW358 := gE hg HB; have GE358 := gE hg HB; replace HB := hS HB hb; clear hb hg) | ((with_reducible refine gG 129 (some 6) rfl rfl ?_); refine gL Tryd.func129 #[.int .i64 a0] ?_; (with_reducible refine (spec_pzRings.calls a0 false _ A3.out).mono ?_); rintro e w' ⟨rfl, ⟨nd, rfl⟩⟩; refine ⟨_, rfl, ?_⟩))
 go_ret
 exact ⟨eW, bel HB⟩

end Go.Proofs.YtcogjabdddikjaaDoor.PHidAll
