-- PRINTED by drive.py (a program of this session's, over the kit's print.py; wip/tools/drive.py). Lean checks it.
import Derived.Test.YtepaleeepbjkbaaDoorPStillStatesx0
import Derived.Test.YtepaleeepbjkbaaDoorPStillStatesx1
import Derived.Test.YtepaleeepbjkbaaDoorPStillStatesx3
import Derived.Test.YtepaleeepbjkbaaDoorPStillStatesx4
namespace Go.Proofs.YtepaleeepbjkbaaDoor.PStillStates
open Go.RowKit Go.Proofs.YtepaleeepbjkbaaDoorW.PrintWords Go.Proofs.YtepaleeepbjkbaaDoorW.PrintLast Go.Proofs.YtepaleeepbjkbaaDoorW.PrintMore
attribute [local go_sem] max2_int min2_int max_two min_two max_three min_three max_four min_four   -- for this text's walks alone
set_option linter.unusedVariables false
set_option linter.unusedSimpArgs false

/-! ### laws_heldStringS: function 44 -/
def laws_heldStringS.l0 : Nat → List ByteArray → Int → Int → Option (Int)
 | 0, _, _, _ => none
 | k + 1, x0, x1, x5 => if x5 < (x0.length : Int) then (if 0 ≤ x5 then ((laws_markText.f k x1).bind fun t165 => (if (rdOf ByteArray.empty x0 x5).toList = t165.toList then (laws_heldStringS.l0 k x0 (wrap64 (x1 + 1)) (wrap64 (x5 + 1))) else (some (-1)))) else (none)) else (some x1)
def laws_heldStringS.f (k : Nat) (l0 : List ByteArray) (a1 : Int) : Option (Int) := laws_heldStringS.l0 k l0 a1 0
theorem laws_heldStringS.mono_l : ∀ k, (∀ y0 y1 y2, LeO (laws_heldStringS.l0 k y0 y1 y2) (laws_heldStringS.l0 (k + 1) y0 y1 y2))
 | 0 => fun _ _ _ r h => by simp [laws_heldStringS.l0] at h
 | k + 1 => by
  have ih0 := laws_heldStringS.mono_l k
  ·intro y0 y1 y2
   unfold laws_heldStringS.l0
   repeat' first
   | (with_reducible exact ih0 _ _ _)
   | (with_reducible exact laws_markText.mono _ _)
   | (with_reducible exact LeO.refl _)
   | (with_reducible exact LeO.none _)
   | (with_reducible refine LeO.ite ?_ ?_)
   | (with_reducible refine LeO.bind ?_ (fun _ => ?_))
   | exact ih0 _ _ _
   | exact laws_markText.mono _ _
   | exact LeO.none _
   | refine LeO.ite ?_ ?_
   | refine LeO.bind ?_ (fun _ => ?_)
theorem laws_heldStringS.mono : ∀ a0 a1 k, LeO (laws_heldStringS.f k a0 a1) (laws_heldStringS.f (k + 1) a0 a1) := by
 intro a0 a1 k
 have ih0 := laws_heldStringS.mono_l k
 unfold laws_heldStringS.f
 repeat' first
   | (with_reducible exact ih0 _ _ _)
   | (with_reducible exact laws_markText.mono _ _)
   | (with_reducible exact LeO.refl _)
   | (with_reducible exact LeO.none _)
   | (with_reducible refine LeO.ite ?_ ?_)
   | (with_reducible refine LeO.bind ?_ (fun _ => ?_))
   | exact ih0 _ _ _
   | exact laws_markText.mono _ _
   | exact LeO.none _
   | refine LeO.ite ?_ ?_
   | refine LeO.bind ?_ (fun _ => ?_)
set_option maxHeartbeats 8000000 in
set_option maxRecDepth 100000 in
theorem laws_heldStringS.calls (k : Nat) (A0 : Option Addr) (c0 : Nat) (l0 : List ByteArray) (a1 : Int) (r : Int) (w : World) (hr0 : Kd.C Kd.string w A0 l0.length l0) (hc0 : l0.length ≤ c0) (h : laws_heldStringS.f k l0 a1 = some r) :
  Calls Tryd.prog 44 #[.slice A0 l0.length c0, .int .i64 a1] w fun e w' => e = .returned (.int .i64 r) ∧ Below w.heap.size w w' := by
 have HR0 := Aside0.mk hr0
 have HC0 := Aside0.mk hc0
 clear hr0 hc0
 have HB := Aside0.mk (Below.refl w.heap.size w)
 have H : (laws_heldStringS.l0 k l0 a1 0) = some r := h
 clear h
 have H' := Aside0.mk H
 clear H
 go_enter Tryd.func44, Tryd.ntmps44
 go_wp2
 go_loopg [1, 5] k (fun kq v1 v5 w' => ∃ (x1_1 : Int) (x5_1 : Int), v1 = .int .i64 x1_1 ∧ v5 = .int .i64 x5_1 ∧ Aside0 (laws_heldStringS.l0 kq l0 x1_1 x5_1 = some r) ∧ Aside0 (kq ≤ k) ∧ Aside0 (Below w.heap.size w w'))
 case atStart => exact ⟨(a1), (0), (by first | rfl | (simp; done) | (simp [*]; done)), (by first | rfl | (simp; done) | (simp [*]; done)), H', ⟨Nat.le_refl _⟩, ⟨by repeat (first | (with_reducible first | exact HB.out | apply below_alloc | apply pw_below_drewN | apply below_drew1) | exact HB.out)⟩⟩
 case round =>
  clear H'
  try clear p2
  obtain ⟨x1_1, x5_1, rfl, rfl, HA, HK1, HB⟩ := hrel
  cases gk with
  | zero => exact absurd HA.out (by simp [laws_heldStringS.l0])
  | succ k1 =>
   have H := HA.out
   clear HA
   simp only [laws_heldStringS.l0] at H
   by_cases c3 : x5_1 < (l0.length : Int)
   ·rw [if_pos c3] at H
    have c3b0 : decide (x5_1 < (l0.length : Int)) = true := decide_eq_true c3
    clear c3
    by_cases c4 : 0 ≤ x5_1
    ·rw [if_pos c4] at H
     have c4b0 : decide (0 ≤ x5_1) = true := decide_eq_true c4
     clear c4
     replace H := Option.bind_eq_some_iff.mp H
     obtain ⟨t165, A50, H⟩ := H
     replace H : (if (rdOf ByteArray.empty l0 x5_1).toList = t165.toList then (laws_heldStringS.l0 k1 l0 (wrap64 (x1_1 + 1)) (wrap64 (x5_1 + 1))) else (some (-1))) = some r := H
     have A5 := Aside0.mk A50
     clear A50
     by_cases c6 : (rdOf ByteArray.empty l0 x5_1).toList = t165.toList
     ·rw [if_pos c6] at H
      have c6b0 : ((rdOf ByteArray.empty l0 x5_1).toList == t165.toList) = true := beq_iff_eq.mpr c6
      have c6b1 : ((rdOf ByteArray.empty l0 x5_1).toList != t165.toList) = false := bne_eq_false_iff_eq.mpr c6
      clear c6
      have H' := Aside0.mk H
      clear H
      try go_wp2
      have n0_ := Aside0.mk (below_drew1 HB.out)
      clear HB
      have HB := n0_
      clear n0_
      have p164 : 0 ≤ (x5_1 : Int) := of_decide_eq_true (by first | (with_reducible assumption) | assumption)
      have q164 : x5_1 < (l0.length : Int) := of_decide_eq_true (by first | (with_reducible assumption) | assumption)
      obtain ⟨ad164, e164, hx164_0⟩ := Kd.at_string HR0.out x5_1 p164 q164
      have hw164_0 := hx164_0
      cases e164
      replace hx164_0 := (HB.out.cell (World.block_lt_of_cell? w _ hx164_0)).trans hx164_0
      replace p164 := eq_true p164
      replace q164 := eq_true q164
      refine start_ (n := 7) (S := fun w' => w'.cell? (ad164.add (x5_1).toNat) = some (.string (rdOf ByteArray.empty l0 x5_1))) (ds := []) #[false, false, false, false, false, false, false] (by kernel_rfl) rfl rfl (((HB.out.cell (World.block_lt_of_cell? w _ hw164_0)).trans hw164_0)) (fun hHeld => ?_)
      generalize wr.drew = w7 at HB hx164_0 hHeld ⊢
      refine pure_ (i := 0) (N := some 12) (v := ?_) (a' := ?_) #[true, false, false, false, false, false, false] rfl rfl (by kernel_rfl) (fun _ _ _ h => h) (Or.inl ⟨by rfl, ?_⟩) ?_ ?_
      rotate_left
      ·intro w'
       go_simp
       with_reducible rfl
      rotate_left
      ·simp only [Act.put, List.setIfInBounds_toArray, List.set_cons_zero, List.set_cons_succ, i64_w, i32_w]
       rfl
      refine pure_ (i := 1) (N := some 13) (v := ?_) (a' := ?_) #[true, true, false, false, false, false, false] rfl rfl (by kernel_rfl) (fun _ _ _ h => h) (Or.inl ⟨by rfl, ?_⟩) ?_ ?_
      rotate_left
      ·intro w'
       go_simp
       with_reducible rfl
      rotate_left
      ·simp only [Act.put, List.setIfInBounds_toArray, List.set_cons_zero, List.set_cons_succ, i64_w, i32_w]
       rfl
      refine pure_ (i := 2) (N := some 14) (v := ?_) (a' := ?_) #[true, true, true, false, false, false, false] rfl rfl (by kernel_rfl) (fun _ _ _ h => h) (Or.inl ⟨by rfl, ?_⟩) ?_ ?_
      rotate_left
      ·intro w'
       go_simp
       with_reducible rfl
      rotate_left
      ·simp only [Act.put, List.setIfInBounds_toArray, List.set_cons_zero, List.set_cons_succ, i64_w, i32_w]
       rfl
      refine pure_ (i := 4) (N := some 16) (v := ?_) (a' := ?_) #[true, true, true, false, true, false, false] rfl rfl (by kernel_rfl) (fun _ _ _ h => h) (Or.inl ⟨by rfl, ?_⟩) ?_ ?_
      rotate_left
      ·intro w'
       go_simp
       with_reducible rfl
      rotate_left
      ·simp only [Act.put, List.setIfInBounds_toArray, List.set_cons_zero, List.set_cons_succ, i64_w, i32_w]
       rfl
      refine take_ (i := 3) (N := some 15) (v := ?_) (a' := ?_) #[true, true, true, true, true, false, false] rfl rfl (by kernel_rfl) (fun _ _ _ h => h) (Or.inl ⟨by rfl, ?_⟩) hHeld ?_ ?_
      rotate_left
      ·intro w' s0
       go_simp
       with_reducible rfl
      rotate_left
      ·simp only [Act.put, List.setIfInBounds_toArray, List.set_cons_zero, List.set_cons_succ, i64_w, i32_w]
       rfl
      refine one_ (i := 5) (N := some 17) #[true, true, true, true, true, true, false] rfl rfl (by kernel_rfl) (by decide) (fun K hK => ?_)
      refine goes_ Tryd.func83 (by kernel_rfl) rfl #[.int .i64 x1_1] (by rfl) rfl rfl (by (try simp only [List.map_toArray, List.map_cons, List.map_nil]); first | done | rfl | (simp only [List.length_drop, List.length_take]; rfl)) ?_
      with_reducible refine (laws_markText.calls k1 x1_1 t165 _ A5.out).mono ?_
      rintro e w8 ⟨rfl, hb⟩
      refine ⟨_, rfl, ?_⟩
      have n0_ := Aside0.mk (below_step (by repeat (first | (with_reducible first | exact HB.out | apply below_alloc | apply pw_below_drewN | apply below_drew1) | exact HB.out)) hb)
      clear HB
      have HB := n0_
      clear n0_
      (try clear hb)
      (try clear hb2)
      (try clear hk)
      (try clear hi)
      refine hK.out _ _ (((HB.out.cell (World.block_lt_of_cell? w _ hw164_0)).trans hw164_0)) (fun hHeld => ?_)
      clear hK K
      refine norm_ (a' := ?_) ?_ ?_
      rotate_left
      ·show Act.put _ (some 17) _ = _
       simp only [Act.put, List.setIfInBounds_toArray, List.set_cons_zero, List.set_cons_succ, i64_w, i32_w]
       rfl
      refine pure_ (i := 6) (N := some 18) (v := ?_) (a' := ?_) #[true, true, true, true, true, true, true] rfl rfl (by kernel_rfl) (fun _ _ _ h => h) (Or.inl ⟨by rfl, ?_⟩) ?_ ?_
      rotate_left
      ·intro w'
       go_simp
       with_reducible rfl
      rotate_left
      ·simp only [Act.put, List.setIfInBounds_toArray, List.set_cons_zero, List.set_cons_succ, i64_w, i32_w]
       rfl
      refine done_ (by kernel_rfl) ?_
      try go_wp2
      go_roundg k1
      case measure => have := HK1.out; omega
      case rel => exact ⟨(wrap64 (x1_1 + 1)), (wrap64 (x5_1 + 1)), (by first | rfl | (simp; done) | (simp [*]; done)), (by first | rfl | (simp; done) | (simp [*]; done)), H', ⟨by have := HK1.out; omega⟩, ⟨by repeat (first | (with_reducible first | exact HB.out | apply below_alloc | apply pw_below_drewN | apply below_drew1) | exact HB.out)⟩⟩
     ·rw [if_neg c6] at H
      have c6b0 : ((rdOf ByteArray.empty l0 x5_1).toList == t165.toList) = false := beq_eq_false_iff_ne.mpr c6
      have c6b1 : ((rdOf ByteArray.empty l0 x5_1).toList != t165.toList) = true := bne_iff_ne.mpr c6
      obtain rfl := Option.some.inj H
      try go_wp2
      have n0_ := Aside0.mk (below_drew1 HB.out)
      clear HB
      have HB := n0_
      clear n0_
      have p164 : 0 ≤ (x5_1 : Int) := of_decide_eq_true (by first | (with_reducible assumption) | assumption)
      have q164 : x5_1 < (l0.length : Int) := of_decide_eq_true (by first | (with_reducible assumption) | assumption)
      obtain ⟨ad164, e164, hx164_0⟩ := Kd.at_string HR0.out x5_1 p164 q164
      have hw164_0 := hx164_0
      cases e164
      replace hx164_0 := (HB.out.cell (World.block_lt_of_cell? w _ hx164_0)).trans hx164_0
      replace p164 := eq_true p164
      replace q164 := eq_true q164
      refine start_ (n := 7) (S := fun w' => w'.cell? (ad164.add (x5_1).toNat) = some (.string (rdOf ByteArray.empty l0 x5_1))) (ds := []) #[false, false, false, false, false, false, false] (by kernel_rfl) rfl rfl (((HB.out.cell (World.block_lt_of_cell? w _ hw164_0)).trans hw164_0)) (fun hHeld => ?_)
      generalize wr.drew = w9 at HB hx164_0 hHeld ⊢
      refine pure_ (i := 0) (N := some 12) (v := ?_) (a' := ?_) #[true, false, false, false, false, false, false] rfl rfl (by kernel_rfl) (fun _ _ _ h => h) (Or.inl ⟨by rfl, ?_⟩) ?_ ?_
      rotate_left
      ·intro w'
       go_simp
       with_reducible rfl
      rotate_left
      ·simp only [Act.put, List.setIfInBounds_toArray, List.set_cons_zero, List.set_cons_succ, i64_w, i32_w]
       rfl
      refine pure_ (i := 1) (N := some 13) (v := ?_) (a' := ?_) #[true, true, false, false, false, false, false] rfl rfl (by kernel_rfl) (fun _ _ _ h => h) (Or.inl ⟨by rfl, ?_⟩) ?_ ?_
      rotate_left
      ·intro w'
       go_simp
       with_reducible rfl
      rotate_left
      ·simp only [Act.put, List.setIfInBounds_toArray, List.set_cons_zero, List.set_cons_succ, i64_w, i32_w]
       rfl
      refine pure_ (i := 2) (N := some 14) (v := ?_) (a' := ?_) #[true, true, true, false, false, false, false] rfl rfl (by kernel_rfl) (fun _ _ _ h => h) (Or.inl ⟨by rfl, ?_⟩) ?_ ?_
      rotate_left
      ·intro w'
       go_simp
       with_reducible rfl
      rotate_left
      ·simp only [Act.put, List.setIfInBounds_toArray, List.set_cons_zero, List.set_cons_succ, i64_w, i32_w]
       rfl
      refine pure_ (i := 4) (N := some 16) (v := ?_) (a' := ?_) #[true, true, true, false, true, false, false] rfl rfl (by kernel_rfl) (fun _ _ _ h => h) (Or.inl ⟨by rfl, ?_⟩) ?_ ?_
      rotate_left
      ·intro w'
       go_simp
       with_reducible rfl
      rotate_left
      ·simp only [Act.put, List.setIfInBounds_toArray, List.set_cons_zero, List.set_cons_succ, i64_w, i32_w]
       rfl
      refine take_ (i := 3) (N := some 15) (v := ?_) (a' := ?_) #[true, true, true, true, true, false, false] rfl rfl (by kernel_rfl) (fun _ _ _ h => h) (Or.inl ⟨by rfl, ?_⟩) hHeld ?_ ?_
      rotate_left
      ·intro w' s0
       go_simp
       with_reducible rfl
      rotate_left
      ·simp only [Act.put, List.setIfInBounds_toArray, List.set_cons_zero, List.set_cons_succ, i64_w, i32_w]
       rfl
      refine one_ (i := 5) (N := some 17) #[true, true, true, true, true, true, false] rfl rfl (by kernel_rfl) (by decide) (fun K hK => ?_)
      refine goes_ Tryd.func83 (by kernel_rfl) rfl #[.int .i64 x1_1] (by rfl) rfl rfl (by (try simp only [List.map_toArray, List.map_cons, List.map_nil]); first | done | rfl | (simp only [List.length_drop, List.length_take]; rfl)) ?_
      with_reducible refine (laws_markText.calls k1 x1_1 t165 _ A5.out).mono ?_
      rintro e w10 ⟨rfl, hb⟩
      refine ⟨_, rfl, ?_⟩
      have n0_ := Aside0.mk (below_step (by repeat (first | (with_reducible first | exact HB.out | apply below_alloc | apply pw_below_drewN | apply below_drew1) | exact HB.out)) hb)
      clear HB
      have HB := n0_
      clear n0_
      (try clear hb)
      (try clear hb2)
      (try clear hk)
      (try clear hi)
      refine hK.out _ _ (((HB.out.cell (World.block_lt_of_cell? w _ hw164_0)).trans hw164_0)) (fun hHeld => ?_)
      clear hK K
      refine norm_ (a' := ?_) ?_ ?_
      rotate_left
      ·show Act.put _ (some 17) _ = _
       simp only [Act.put, List.setIfInBounds_toArray, List.set_cons_zero, List.set_cons_succ, i64_w, i32_w]
       rfl
      refine pure_ (i := 6) (N := some 18) (v := ?_) (a' := ?_) #[true, true, true, true, true, true, true] rfl rfl (by kernel_rfl) (fun _ _ _ h => h) (Or.inl ⟨by rfl, ?_⟩) ?_ ?_
      rotate_left
      ·intro w'
       go_simp
       with_reducible rfl
      rotate_left
      ·simp only [Act.put, List.setIfInBounds_toArray, List.set_cons_zero, List.set_cons_succ, i64_w, i32_w]
       rfl
      refine done_ (by kernel_rfl) ?_
      try go_wp2
      go_ret
      exact ⟨by first | rfl | (simp [errW_none, errW_some] <;> rfl) | (simp [*, errW_none, errW_some] <;> rfl), by repeat (first | (with_reducible first | exact HB.out | apply below_alloc | apply pw_below_drewN | apply below_drew1) | exact HB.out)⟩
    ·rw [if_neg c4] at H
     exact absurd H (by simp)
   ·rw [if_neg c3] at H
    have c3b0 : decide (x5_1 < (l0.length : Int)) = false := decide_eq_false c3
    clear c3
    obtain rfl := Option.some.inj H
    go_wp2
    go_ret
    exact ⟨by first | rfl | (simp [errW_none, errW_some] <;> rfl) | (simp [*, errW_none, errW_some] <;> rfl), by repeat (first | (with_reducible first | exact HB.out | apply below_alloc | apply pw_below_drewN | apply below_drew1) | exact HB.out)⟩

/-! ### laws_FnExactStillStates: function 10 -/
def laws_FnExactStillStates.f (k : Nat) (l0_0 : List ByteArray) : Option (Bool) := (laws_szLamps.f k l0_0 1048576).bind fun t167 => (if t167 < 0 then (some true) else ((laws_toLamps.f k l0_0).bind fun t168 => ((spec_StillStates.f k t168).bind fun bt171 => ((laws_toLamps.f k l0_0).bind fun t175 => ((impl_StillStates.f t175).bind fun bt179 => ((laws_eqStringS.f k bt179.1 bt171.1).bind fun t183 => (if t183 = true then (if (bt179.2 != bt171.2) = true then (none) else ((laws_toLamps.f k l0_0).bind fun t184 => ((laws_eqLamps.f k t175 t184).bind fun t187 => (if t187 = true then ((laws_markLamps.f k t175 1).bind fun bt188 => (if bt188.1 < 0 then (none) else ((laws_eqStringS.f k bt179.1 bt171.1).bind fun t190 => (if t190 = true then ((laws_markStringS.f k bt179.1 1).bind fun bt191 => ((laws_heldStringS.f k bt191.2 1).bind fun t193 => (if t193 < 0 then (none) else (if t193 = bt191.1 then ((laws_toLamps.f k l0_0).bind fun t194 => ((impl_StillStates.f t194).bind fun bt197 => ((laws_eqStringS.f k bt197.1 bt171.1).bind fun t201 => (if t201 = true then (if (bt197.2 != bt171.2) = true then (none) else ((laws_heldStringS.f k bt191.2 1).bind fun t202 => (if t202 < 0 then (none) else (if t202 = bt191.1 then (some true) else (none))))) else (none))))) else (none))))) else (none))))) else (none))))) else (none))))))))
theorem laws_FnExactStillStates.mono : ∀ a0 k, LeO (laws_FnExactStillStates.f k a0) (laws_FnExactStillStates.f (k + 1) a0) := by
 intro a0 k
 unfold laws_FnExactStillStates.f
 repeat' first
   | (with_reducible exact laws_eqLamps.mono _ _ _)
   | (with_reducible exact laws_eqStringS.mono _ _ _)
   | (with_reducible exact laws_heldStringS.mono _ _ _)
   | (with_reducible exact laws_markLamps.mono _ _ _)
   | (with_reducible exact laws_markStringS.mono _ _ _)
   | (with_reducible exact laws_szLamps.mono _ _ _)
   | (with_reducible exact laws_toLamps.mono _ _)
   | (with_reducible exact spec_StillStates.mono _ _)
   | (with_reducible exact LeO.refl _)
   | (with_reducible exact LeO.none _)
   | (with_reducible refine LeO.ite ?_ ?_)
   | (with_reducible refine LeO.bind ?_ (fun _ => ?_))
   | exact laws_eqLamps.mono _ _ _
   | exact laws_eqStringS.mono _ _ _
   | exact laws_heldStringS.mono _ _ _
   | exact laws_markLamps.mono _ _ _
   | exact laws_markStringS.mono _ _ _
   | exact laws_szLamps.mono _ _ _
   | exact laws_toLamps.mono _ _
   | exact spec_StillStates.mono _ _
   | exact LeO.none _
   | refine LeO.ite ?_ ?_
   | refine LeO.bind ?_ (fun _ => ?_)
set_option maxHeartbeats 8000000 in
set_option maxRecDepth 100000 in
theorem laws_FnExactStillStates.calls (k : Nat) (A0_0 : Option Addr) (c0_0 : Nat) (l0_0 : List ByteArray) (r : Bool) (w : World) (hr0_0 : Kd.C Kd.string w A0_0 l0_0.length l0_0) (hc0_0 : l0_0.length ≤ c0_0) (h : laws_FnExactStillStates.f k l0_0 = some r) :
  Calls Tryd.prog 10 #[.agg #[.slice A0_0 l0_0.length c0_0]] w fun e w' => e = .returned (.bool r) ∧ Below w.heap.size w w' := by
 have hu32 := Tryd.underlying32
 have hu37 := Tryd.underlying37
 have HR0_0 := Aside0.mk hr0_0
 have HC0_0 := Aside0.mk hc0_0
 clear hr0_0 hc0_0
 have HB := Aside0.mk (Below.refl w.heap.size w)
 have H : ((laws_szLamps.f k l0_0 1048576).bind fun t167 => (if t167 < 0 then (some true) else ((laws_toLamps.f k l0_0).bind fun t168 => ((spec_StillStates.f k t168).bind fun bt171 => ((laws_toLamps.f k l0_0).bind fun t175 => ((impl_StillStates.f t175).bind fun bt179 => ((laws_eqStringS.f k bt179.1 bt171.1).bind fun t183 => (if t183 = true then (if (bt179.2 != bt171.2) = true then (none) else ((laws_toLamps.f k l0_0).bind fun t184 => ((laws_eqLamps.f k t175 t184).bind fun t187 => (if t187 = true then ((laws_markLamps.f k t175 1).bind fun bt188 => (if bt188.1 < 0 then (none) else ((laws_eqStringS.f k bt179.1 bt171.1).bind fun t190 => (if t190 = true then ((laws_markStringS.f k bt179.1 1).bind fun bt191 => ((laws_heldStringS.f k bt191.2 1).bind fun t193 => (if t193 < 0 then (none) else (if t193 = bt191.1 then ((laws_toLamps.f k l0_0).bind fun t194 => ((impl_StillStates.f t194).bind fun bt197 => ((laws_eqStringS.f k bt197.1 bt171.1).bind fun t201 => (if t201 = true then (if (bt197.2 != bt171.2) = true then (none) else ((laws_heldStringS.f k bt191.2 1).bind fun t202 => (if t202 < 0 then (none) else (if t202 = bt191.1 then (some true) else (none))))) else (none))))) else (none))))) else (none))))) else (none))))) else (none))))))))) = some r := h
 clear h
 replace H := Option.bind_eq_some_iff.mp H
 obtain ⟨t167, A20, H⟩ := H
 replace H : (if t167 < 0 then (some true) else ((laws_toLamps.f k l0_0).bind fun t168 => ((spec_StillStates.f k t168).bind fun bt171 => ((laws_toLamps.f k l0_0).bind fun t175 => ((impl_StillStates.f t175).bind fun bt179 => ((laws_eqStringS.f k bt179.1 bt171.1).bind fun t183 => (if t183 = true then (if (bt179.2 != bt171.2) = true then (none) else ((laws_toLamps.f k l0_0).bind fun t184 => ((laws_eqLamps.f k t175 t184).bind fun t187 => (if t187 = true then ((laws_markLamps.f k t175 1).bind fun bt188 => (if bt188.1 < 0 then (none) else ((laws_eqStringS.f k bt179.1 bt171.1).bind fun t190 => (if t190 = true then ((laws_markStringS.f k bt179.1 1).bind fun bt191 => ((laws_heldStringS.f k bt191.2 1).bind fun t193 => (if t193 < 0 then (none) else (if t193 = bt191.1 then ((laws_toLamps.f k l0_0).bind fun t194 => ((impl_StillStates.f t194).bind fun bt197 => ((laws_eqStringS.f k bt197.1 bt171.1).bind fun t201 => (if t201 = true then (if (bt197.2 != bt171.2) = true then (none) else ((laws_heldStringS.f k bt191.2 1).bind fun t202 => (if t202 < 0 then (none) else (if t202 = bt191.1 then (some true) else (none))))) else (none))))) else (none))))) else (none))))) else (none))))) else (none)))))))) = some r := H
 have A2 := Aside0.mk A20
 clear A20
 by_cases c3 : t167 < 0
 ·rw [if_pos c3] at H
  have c3b0 : decide (t167 < 0) = true := decide_eq_true c3
  clear c3
  obtain rfl := Option.some.inj H
  go_enter Tryd.func10, Tryd.ntmps10
  go_wp2_with (first | ((with_reducible refine gate_dst (N := 1) rfl ?_); refine box_event ?hg (N := 1) ?hd (cs := #[.slice A0_0 l0_0.length c0_0]) (t := 32) ?hr ?_; (case hd => rfl); (case hg => rfl); (case hr => first | (go_simp; done) | (go_simp; rfl)); intro gb166 hg w4 hbox hb; have n0_ := Aside0.mk (below_step (by repeat (first | (with_reducible first | exact HB.out | apply below_alloc | apply pw_below_drewN | apply below_drew1) | exact HB.out)) hb); have n1_ := Aside0.mk (hbox); have n2_ := Aside0.mk ((by rw [hg]; exact (below_size (by repeat (first | (with_reducible first | exact HB.out | apply below_alloc | apply pw_below_drewN | apply below_drew1) | exact HB.out))) : w.heap.size ≤ gb166)); have n3_ := Aside0.mk ((by rw [hg]; exact (below_size (by repeat (first | (with_reducible first | exact HB.out | apply below_alloc | apply pw_below_drewN | apply below_drew1) | exact HB.out))) : w.heap.size ≤ gb166)); clear HB; have HB := n0_; have BK166 := n1_; have GW166 := n2_; have GE166 := n3_; clear n0_ n1_ n2_ n3_; clear hb hbox hg; have hcz5_0 : w4.cell? ⟨gb166, 0, none⟩ = some (.slice A0_0 l0_0.length c0_0) := (blk_cell BK166.out 0).trans rfl; have hfz5_0 := blk_frozen BK166.out 0) | ((with_reducible refine gate_callee (f := 20) rfl ?_); refine goesL_ (some 16) rfl rfl Tryd.func20 (by kernel_rfl) rfl #[.agg #[.slice A0_0 l0_0.length c0_0], .int .i64 1048576] rfl (by (try simp only [List.map_toArray, List.map_cons, List.map_nil]); first | done | rfl | (simp only [List.length_drop, List.length_take]; rfl)) ?_; (with_reducible refine (laws_szLamps.calls k _ _ l0_0 1048576 t167 _ ?side1 ?side2 A2.out).mono ?_); (case side1 => repeat (first | exact (Kd.C_below HR0_0.out HB.out) | (with_reducible refine Kd.C_alloc ?_ _) | (with_reducible refine Kd.C_drewN ?_ _) | (with_reducible refine Kd.C_drew ?_))); (case side2 => exact HC0_0.out); rintro e w6 ⟨rfl, hb⟩; refine ⟨_, rfl, ?_⟩; have n0_ := Aside0.mk (blk_below (g := gb166) (o := .cells #[.slice A0_0 l0_0.length c0_0] 32 (0, 0)) (by (with_reducible repeat (first | refine blk_drewN ?_ _ | refine blk_drew ?_ | refine blk_alloc ?_ _)); exact BK166.out) hb); have n1_ := Aside0.mk (below_step (by repeat (first | (with_reducible first | exact HB.out | apply below_alloc | apply pw_below_drewN | apply below_drew1 | refine below_set ?_ GE166.out) | exact HB.out)) hb); clear BK166; clear HB; have BK166 := n0_; have HB := n1_; clear n0_ n1_; (try clear hb); (try clear hb2); (try clear hk); (try clear hi)))
  go_ret
  exact ⟨by first | rfl | (simp [errW_none, errW_some] <;> rfl) | (simp [*, errW_none, errW_some] <;> rfl), by repeat (first | (with_reducible first | exact HB.out | apply below_alloc | apply pw_below_drewN | apply below_drew1 | refine below_set ?_ GE166.out) | exact HB.out)⟩
 ·rw [if_neg c3] at H
  have c3b0 : decide (t167 < 0) = false := decide_eq_false c3
  clear c3
  replace H := Option.bind_eq_some_iff.mp H
  obtain ⟨t168, A70, H⟩ := H
  replace H : ((spec_StillStates.f k t168).bind fun bt171 => ((laws_toLamps.f k l0_0).bind fun t175 => ((impl_StillStates.f t175).bind fun bt179 => ((laws_eqStringS.f k bt179.1 bt171.1).bind fun t183 => (if t183 = true then (if (bt179.2 != bt171.2) = true then (none) else ((laws_toLamps.f k l0_0).bind fun t184 => ((laws_eqLamps.f k t175 t184).bind fun t187 => (if t187 = true then ((laws_markLamps.f k t175 1).bind fun bt188 => (if bt188.1 < 0 then (none) else ((laws_eqStringS.f k bt179.1 bt171.1).bind fun t190 => (if t190 = true then ((laws_markStringS.f k bt179.1 1).bind fun bt191 => ((laws_heldStringS.f k bt191.2 1).bind fun t193 => (if t193 < 0 then (none) else (if t193 = bt191.1 then ((laws_toLamps.f k l0_0).bind fun t194 => ((impl_StillStates.f t194).bind fun bt197 => ((laws_eqStringS.f k bt197.1 bt171.1).bind fun t201 => (if t201 = true then (if (bt197.2 != bt171.2) = true then (none) else ((laws_heldStringS.f k bt191.2 1).bind fun t202 => (if t202 < 0 then (none) else (if t202 = bt191.1 then (some true) else (none))))) else (none))))) else (none))))) else (none))))) else (none))))) else (none)))))) = some r := H
  have A7 := Aside0.mk A70
  clear A70
  replace H := Option.bind_eq_some_iff.mp H
  obtain ⟨⟨t171, t174⟩, A80, H⟩ := H
  replace H : ((laws_toLamps.f k l0_0).bind fun t175 => ((impl_StillStates.f t175).bind fun bt179 => ((laws_eqStringS.f k bt179.1 t171).bind fun t183 => (if t183 = true then (if (bt179.2 != t174) = true then (none) else ((laws_toLamps.f k l0_0).bind fun t184 => ((laws_eqLamps.f k t175 t184).bind fun t187 => (if t187 = true then ((laws_markLamps.f k t175 1).bind fun bt188 => (if bt188.1 < 0 then (none) else ((laws_eqStringS.f k bt179.1 t171).bind fun t190 => (if t190 = true then ((laws_markStringS.f k bt179.1 1).bind fun bt191 => ((laws_heldStringS.f k bt191.2 1).bind fun t193 => (if t193 < 0 then (none) else (if t193 = bt191.1 then ((laws_toLamps.f k l0_0).bind fun t194 => ((impl_StillStates.f t194).bind fun bt197 => ((laws_eqStringS.f k bt197.1 t171).bind fun t201 => (if t201 = true then (if (bt197.2 != t174) = true then (none) else ((laws_heldStringS.f k bt191.2 1).bind fun t202 => (if t202 < 0 then (none) else (if t202 = bt191.1 then (some true) else (none))))) else (none))))) else (none))))) else (none))))) else (none))))) else (none))))) = some r := H
  have A8 := Aside0.mk A80
  clear A80
  replace H := Option.bind_eq_some_iff.mp H
  obtain ⟨t175, A90, H⟩ := H
  replace H : ((impl_StillStates.f t175).bind fun bt179 => ((laws_eqStringS.f k bt179.1 t171).bind fun t183 => (if t183 = true then (if (bt179.2 != t174) = true then (none) else ((laws_toLamps.f k l0_0).bind fun t184 => ((laws_eqLamps.f k t175 t184).bind fun t187 => (if t187 = true then ((laws_markLamps.f k t175 1).bind fun bt188 => (if bt188.1 < 0 then (none) else ((laws_eqStringS.f k bt179.1 t171).bind fun t190 => (if t190 = true then ((laws_markStringS.f k bt179.1 1).bind fun bt191 => ((laws_heldStringS.f k bt191.2 1).bind fun t193 => (if t193 < 0 then (none) else (if t193 = bt191.1 then ((laws_toLamps.f k l0_0).bind fun t194 => ((impl_StillStates.f t194).bind fun bt197 => ((laws_eqStringS.f k bt197.1 t171).bind fun t201 => (if t201 = true then (if (bt197.2 != t174) = true then (none) else ((laws_heldStringS.f k bt191.2 1).bind fun t202 => (if t202 < 0 then (none) else (if t202 = bt191.1 then (some true) else (none))))) else (none))))) else (none))))) else (none))))) else (none))))) else (none)))) = some r := H
  have A9 := Aside0.mk A90
  clear A90
  replace H := Option.bind_eq_some_iff.mp H
  obtain ⟨⟨t179, t182⟩, A100, H⟩ := H
  replace H : ((laws_eqStringS.f k t179 t171).bind fun t183 => (if t183 = true then (if (t182 != t174) = true then (none) else ((laws_toLamps.f k l0_0).bind fun t184 => ((laws_eqLamps.f k t175 t184).bind fun t187 => (if t187 = true then ((laws_markLamps.f k t175 1).bind fun bt188 => (if bt188.1 < 0 then (none) else ((laws_eqStringS.f k t179 t171).bind fun t190 => (if t190 = true then ((laws_markStringS.f k t179 1).bind fun bt191 => ((laws_heldStringS.f k bt191.2 1).bind fun t193 => (if t193 < 0 then (none) else (if t193 = bt191.1 then ((laws_toLamps.f k l0_0).bind fun t194 => ((impl_StillStates.f t194).bind fun bt197 => ((laws_eqStringS.f k bt197.1 t171).bind fun t201 => (if t201 = true then (if (bt197.2 != t174) = true then (none) else ((laws_heldStringS.f k bt191.2 1).bind fun t202 => (if t202 < 0 then (none) else (if t202 = bt191.1 then (some true) else (none))))) else (none))))) else (none))))) else (none))))) else (none))))) else (none))) = some r := H
  have A10 := Aside0.mk A100
  clear A100
  replace H := Option.bind_eq_some_iff.mp H
  obtain ⟨t183, A110, H⟩ := H
  replace H : (if t183 = true then (if (t182 != t174) = true then (none) else ((laws_toLamps.f k l0_0).bind fun t184 => ((laws_eqLamps.f k t175 t184).bind fun t187 => (if t187 = true then ((laws_markLamps.f k t175 1).bind fun bt188 => (if bt188.1 < 0 then (none) else ((laws_eqStringS.f k t179 t171).bind fun t190 => (if t190 = true then ((laws_markStringS.f k t179 1).bind fun bt191 => ((laws_heldStringS.f k bt191.2 1).bind fun t193 => (if t193 < 0 then (none) else (if t193 = bt191.1 then ((laws_toLamps.f k l0_0).bind fun t194 => ((impl_StillStates.f t194).bind fun bt197 => ((laws_eqStringS.f k bt197.1 t171).bind fun t201 => (if t201 = true then (if (bt197.2 != t174) = true then (none) else ((laws_heldStringS.f k bt191.2 1).bind fun t202 => (if t202 < 0 then (none) else (if t202 = bt191.1 then (some true) else (none))))) else (none))))) else (none))))) else (none))))) else (none))))) else (none)) = some r := H
  have A11 := Aside0.mk A110
  clear A110
  by_cases c12 : t183 = true
  ·subst c12
   have H1 : (if (t182 != t174) = true then (none) else ((laws_toLamps.f k l0_0).bind fun t184 => ((laws_eqLamps.f k t175 t184).bind fun t187 => (if t187 = true then ((laws_markLamps.f k t175 1).bind fun bt188 => (if bt188.1 < 0 then (none) else ((laws_eqStringS.f k t179 t171).bind fun t190 => (if t190 = true then ((laws_markStringS.f k t179 1).bind fun bt191 => ((laws_heldStringS.f k bt191.2 1).bind fun t193 => (if t193 < 0 then (none) else (if t193 = bt191.1 then ((laws_toLamps.f k l0_0).bind fun t194 => ((impl_StillStates.f t194).bind fun bt197 => ((laws_eqStringS.f k bt197.1 t171).bind fun t201 => (if t201 = true then (if (bt197.2 != t174) = true then (none) else ((laws_heldStringS.f k bt191.2 1).bind fun t202 => (if t202 < 0 then (none) else (if t202 = bt191.1 then (some true) else (none))))) else (none))))) else (none))))) else (none))))) else (none))))) = some r := by rw [if_pos rfl] at H; exact H
   clear H
   have H := H1
   clear H1
   by_cases c13 : (t182 != t174) = true
   ·rw [if_pos c13] at H
    exact absurd H (by simp)
   ·rw [if_neg c13] at H
    have c13b0 : (t182 != t174) = false := by simpa using c13
    (try (have c13b1 : decide (t182 = t174) = true := by simpa using c13))
    (try (have c13b2 : (t182 == t174) = true := by simpa using c13))
    clear c13
    replace H := Option.bind_eq_some_iff.mp H
    obtain ⟨t184, A140, H⟩ := H
    replace H : ((laws_eqLamps.f k t175 t184).bind fun t187 => (if t187 = true then ((laws_markLamps.f k t175 1).bind fun bt188 => (if bt188.1 < 0 then (none) else ((laws_eqStringS.f k t179 t171).bind fun t190 => (if t190 = true then ((laws_markStringS.f k t179 1).bind fun bt191 => ((laws_heldStringS.f k bt191.2 1).bind fun t193 => (if t193 < 0 then (none) else (if t193 = bt191.1 then ((laws_toLamps.f k l0_0).bind fun t194 => ((impl_StillStates.f t194).bind fun bt197 => ((laws_eqStringS.f k bt197.1 t171).bind fun t201 => (if t201 = true then (if (bt197.2 != t174) = true then (none) else ((laws_heldStringS.f k bt191.2 1).bind fun t202 => (if t202 < 0 then (none) else (if t202 = bt191.1 then (some true) else (none))))) else (none))))) else (none))))) else (none))))) else (none))) = some r := H
    have A14 := Aside0.mk A140
    clear A140
    replace H := Option.bind_eq_some_iff.mp H
    obtain ⟨t187, A150, H⟩ := H
    replace H : (if t187 = true then ((laws_markLamps.f k t175 1).bind fun bt188 => (if bt188.1 < 0 then (none) else ((laws_eqStringS.f k t179 t171).bind fun t190 => (if t190 = true then ((laws_markStringS.f k t179 1).bind fun bt191 => ((laws_heldStringS.f k bt191.2 1).bind fun t193 => (if t193 < 0 then (none) else (if t193 = bt191.1 then ((laws_toLamps.f k l0_0).bind fun t194 => ((impl_StillStates.f t194).bind fun bt197 => ((laws_eqStringS.f k bt197.1 t171).bind fun t201 => (if t201 = true then (if (bt197.2 != t174) = true then (none) else ((laws_heldStringS.f k bt191.2 1).bind fun t202 => (if t202 < 0 then (none) else (if t202 = bt191.1 then (some true) else (none))))) else (none))))) else (none))))) else (none))))) else (none)) = some r := H
    have A15 := Aside0.mk A150
    clear A150
    by_cases c16 : t187 = true
    ·subst c16
     have H1 : ((laws_markLamps.f k t175 1).bind fun bt188 => (if bt188.1 < 0 then (none) else ((laws_eqStringS.f k t179 t171).bind fun t190 => (if t190 = true then ((laws_markStringS.f k t179 1).bind fun bt191 => ((laws_heldStringS.f k bt191.2 1).bind fun t193 => (if t193 < 0 then (none) else (if t193 = bt191.1 then ((laws_toLamps.f k l0_0).bind fun t194 => ((impl_StillStates.f t194).bind fun bt197 => ((laws_eqStringS.f k bt197.1 t171).bind fun t201 => (if t201 = true then (if (bt197.2 != t174) = true then (none) else ((laws_heldStringS.f k bt191.2 1).bind fun t202 => (if t202 < 0 then (none) else (if t202 = bt191.1 then (some true) else (none))))) else (none))))) else (none))))) else (none))))) = some r := by rw [if_pos rfl] at H; exact H
     clear H
     have H := H1
     clear H1
     replace H := Option.bind_eq_some_iff.mp H
     obtain ⟨⟨t188, t189⟩, A170, H⟩ := H
     replace H : (if t188 < 0 then (none) else ((laws_eqStringS.f k t179 t171).bind fun t190 => (if t190 = true then ((laws_markStringS.f k t179 1).bind fun bt191 => ((laws_heldStringS.f k bt191.2 1).bind fun t193 => (if t193 < 0 then (none) else (if t193 = bt191.1 then ((laws_toLamps.f k l0_0).bind fun t194 => ((impl_StillStates.f t194).bind fun bt197 => ((laws_eqStringS.f k bt197.1 t171).bind fun t201 => (if t201 = true then (if (bt197.2 != t174) = true then (none) else ((laws_heldStringS.f k bt191.2 1).bind fun t202 => (if t202 < 0 then (none) else (if t202 = bt191.1 then (some true) else (none))))) else (none))))) else (none))))) else (none)))) = some r := H
     have A17 := Aside0.mk A170
     clear A170
     by_cases c18 : t188 < 0
     ·rw [if_pos c18] at H
      exact absurd H (by simp)
     ·rw [if_neg c18] at H
      have c18b0 : decide (t188 < 0) = false := decide_eq_false c18
      clear c18
      replace H := Option.bind_eq_some_iff.mp H
      obtain ⟨t190, A190, H⟩ := H
      replace H : (if t190 = true then ((laws_markStringS.f k t179 1).bind fun bt191 => ((laws_heldStringS.f k bt191.2 1).bind fun t193 => (if t193 < 0 then (none) else (if t193 = bt191.1 then ((laws_toLamps.f k l0_0).bind fun t194 => ((impl_StillStates.f t194).bind fun bt197 => ((laws_eqStringS.f k bt197.1 t171).bind fun t201 => (if t201 = true then (if (bt197.2 != t174) = true then (none) else ((laws_heldStringS.f k bt191.2 1).bind fun t202 => (if t202 < 0 then (none) else (if t202 = bt191.1 then (some true) else (none))))) else (none))))) else (none))))) else (none)) = some r := H
      have A19 := Aside0.mk A190
      clear A190
      by_cases c20 : t190 = true
      ·subst c20
       have H1 : ((laws_markStringS.f k t179 1).bind fun bt191 => ((laws_heldStringS.f k bt191.2 1).bind fun t193 => (if t193 < 0 then (none) else (if t193 = bt191.1 then ((laws_toLamps.f k l0_0).bind fun t194 => ((impl_StillStates.f t194).bind fun bt197 => ((laws_eqStringS.f k bt197.1 t171).bind fun t201 => (if t201 = true then (if (bt197.2 != t174) = true then (none) else ((laws_heldStringS.f k bt191.2 1).bind fun t202 => (if t202 < 0 then (none) else (if t202 = bt191.1 then (some true) else (none))))) else (none))))) else (none))))) = some r := by rw [if_pos rfl] at H; exact H
       clear H
       have H := H1
       clear H1
       replace H := Option.bind_eq_some_iff.mp H
       obtain ⟨⟨t191, t192⟩, A210, H⟩ := H
       replace H : ((laws_heldStringS.f k t192 1).bind fun t193 => (if t193 < 0 then (none) else (if t193 = t191 then ((laws_toLamps.f k l0_0).bind fun t194 => ((impl_StillStates.f t194).bind fun bt197 => ((laws_eqStringS.f k bt197.1 t171).bind fun t201 => (if t201 = true then (if (bt197.2 != t174) = true then (none) else ((laws_heldStringS.f k t192 1).bind fun t202 => (if t202 < 0 then (none) else (if t202 = t191 then (some true) else (none))))) else (none))))) else (none)))) = some r := H
       have A21 := Aside0.mk A210
       clear A210
       replace H := Option.bind_eq_some_iff.mp H
       obtain ⟨t193, A220, H⟩ := H
       replace H : (if t193 < 0 then (none) else (if t193 = t191 then ((laws_toLamps.f k l0_0).bind fun t194 => ((impl_StillStates.f t194).bind fun bt197 => ((laws_eqStringS.f k bt197.1 t171).bind fun t201 => (if t201 = true then (if (bt197.2 != t174) = true then (none) else ((laws_heldStringS.f k t192 1).bind fun t202 => (if t202 < 0 then (none) else (if t202 = t191 then (some true) else (none))))) else (none))))) else (none))) = some r := H
       have A22 := Aside0.mk A220
       clear A220
       by_cases c23 : t193 < 0
       ·rw [if_pos c23] at H
        exact absurd H (by simp)
       ·rw [if_neg c23] at H
        have c23b0 : decide (t193 < 0) = false := decide_eq_false c23
        clear c23
        by_cases c24 : t193 = t191
        ·rw [if_pos c24] at H
         have c24b0 : (t193 == t191) = true := beq_iff_eq.mpr c24
         have c24b1 : (t193 != t191) = false := bne_eq_false_iff_eq.mpr c24
         clear c24
         replace H := Option.bind_eq_some_iff.mp H
         obtain ⟨t194, A250, H⟩ := H
         replace H : ((impl_StillStates.f t194).bind fun bt197 => ((laws_eqStringS.f k bt197.1 t171).bind fun t201 => (if t201 = true then (if (bt197.2 != t174) = true then (none) else ((laws_heldStringS.f k t192 1).bind fun t202 => (if t202 < 0 then (none) else (if t202 = t191 then (some true) else (none))))) else (none)))) = some r := H
         have A25 := Aside0.mk A250
         clear A250
         replace H := Option.bind_eq_some_iff.mp H
         obtain ⟨⟨t197, t200⟩, A260, H⟩ := H
         replace H : ((laws_eqStringS.f k t197 t171).bind fun t201 => (if t201 = true then (if (t200 != t174) = true then (none) else ((laws_heldStringS.f k t192 1).bind fun t202 => (if t202 < 0 then (none) else (if t202 = t191 then (some true) else (none))))) else (none))) = some r := H
         have A26 := Aside0.mk A260
         clear A260
         replace H := Option.bind_eq_some_iff.mp H
         obtain ⟨t201, A270, H⟩ := H
         replace H : (if t201 = true then (if (t200 != t174) = true then (none) else ((laws_heldStringS.f k t192 1).bind fun t202 => (if t202 < 0 then (none) else (if t202 = t191 then (some true) else (none))))) else (none)) = some r := H
         have A27 := Aside0.mk A270
         clear A270
         by_cases c28 : t201 = true
         ·subst c28
          have H1 : (if (t200 != t174) = true then (none) else ((laws_heldStringS.f k t192 1).bind fun t202 => (if t202 < 0 then (none) else (if t202 = t191 then (some true) else (none))))) = some r := by rw [if_pos rfl] at H; exact H
          clear H
          have H := H1
          clear H1
          by_cases c29 : (t200 != t174) = true
          ·rw [if_pos c29] at H
           exact absurd H (by simp)
          ·rw [if_neg c29] at H
           have c29b0 : (t200 != t174) = false := by simpa using c29
           (try (have c29b1 : decide (t200 = t174) = true := by simpa using c29))
           (try (have c29b2 : (t200 == t174) = true := by simpa using c29))
           clear c29
           replace H := Option.bind_eq_some_iff.mp H
           obtain ⟨t202, A300, H⟩ := H
           replace H : (if t202 < 0 then (none) else (if t202 = t191 then (some true) else (none))) = some r := H
           have A30 := Aside0.mk A300
           clear A300
           by_cases c31 : t202 < 0
           ·rw [if_pos c31] at H
            exact absurd H (by simp)
           ·rw [if_neg c31] at H
            have c31b0 : decide (t202 < 0) = false := decide_eq_false c31
            clear c31
            by_cases c32 : t202 = t191
            ·rw [if_pos c32] at H
             have c32b0 : (t202 == t191) = true := beq_iff_eq.mpr c32
             have c32b1 : (t202 != t191) = false := bne_eq_false_iff_eq.mpr c32
             clear c32
             obtain rfl := Option.some.inj H
             go_enter Tryd.func10, Tryd.ntmps10
             try go_wp2_with (first | ((with_reducible refine gate_dst (N := 1) rfl ?_); refine box_event ?hg (N := 1) ?hd (cs := #[.slice A0_0 l0_0.length c0_0]) (t := 32) ?hr ?_; (case hd => rfl); (case hg => rfl); (case hr => first | (go_simp; done) | (go_simp; rfl)); intro gb166 hg w33 hbox hb; have n0_ := Aside0.mk (below_step (by repeat (first | (with_reducible first | exact HB.out | apply below_alloc | apply pw_below_drewN | apply below_drew1) | exact HB.out)) hb); have n1_ := Aside0.mk (hbox); have n2_ := Aside0.mk ((by rw [hg]; exact (below_size (by repeat (first | (with_reducible first | exact HB.out | apply below_alloc | apply pw_below_drewN | apply below_drew1) | exact HB.out))) : w.heap.size ≤ gb166)); have n3_ := Aside0.mk ((by rw [hg]; exact (below_size (by repeat (first | (with_reducible first | exact HB.out | apply below_alloc | apply pw_below_drewN | apply below_drew1) | exact HB.out))) : w.heap.size ≤ gb166)); clear HB; have HB := n0_; have BK166 := n1_; have GW166 := n2_; have GE166 := n3_; clear n0_ n1_ n2_ n3_; clear hb hbox hg; have hcz34_0 : w33.cell? ⟨gb166, 0, none⟩ = some (.slice A0_0 l0_0.length c0_0) := (blk_cell BK166.out 0).trans rfl; have hfz34_0 := blk_frozen BK166.out 0) | ((with_reducible refine gate_callee (f := 20) rfl ?_); refine goesL_ (some 16) rfl rfl Tryd.func20 (by kernel_rfl) rfl #[.agg #[.slice A0_0 l0_0.length c0_0], .int .i64 1048576] rfl (by (try simp only [List.map_toArray, List.map_cons, List.map_nil]); first | done | rfl | (simp only [List.length_drop, List.length_take]; rfl)) ?_; (with_reducible refine (laws_szLamps.calls k _ _ l0_0 1048576 t167 _ ?side1 ?side2 A2.out).mono ?_); (case side1 => repeat (first | exact (Kd.C_below HR0_0.out HB.out) | (with_reducible refine Kd.C_alloc ?_ _) | (with_reducible refine Kd.C_drewN ?_ _) | (with_reducible refine Kd.C_drew ?_))); (case side2 => exact HC0_0.out); rintro e w35 ⟨rfl, hb⟩; refine ⟨_, rfl, ?_⟩; have n0_ := Aside0.mk (blk_below (g := gb166) (o := .cells #[.slice A0_0 l0_0.length c0_0] 32 (0, 0)) (by (with_reducible repeat (first | refine blk_drewN ?_ _ | refine blk_drew ?_ | refine blk_alloc ?_ _)); exact BK166.out) hb); have n1_ := Aside0.mk (below_step (by repeat (first | (with_reducible first | exact HB.out | apply below_alloc | apply pw_below_drewN | apply below_drew1 | refine below_set ?_ GE166.out) | exact HB.out)) hb); clear BK166; clear HB; have BK166 := n0_; have HB := n1_; clear n0_ n1_; (try clear hb); (try clear hb2); (try clear hk); (try clear hi); have hcz36_0 : w35.cell? ⟨gb166, 0, none⟩ = some (.slice A0_0 l0_0.length c0_0) := (blk_cell BK166.out 0).trans rfl; have hfz36_0 := blk_frozen BK166.out 0) | ((with_reducible refine gate_callee (f := 22) rfl ?_); refine goesL_ (some 21) rfl rfl Tryd.func22 (by kernel_rfl) rfl #[.agg #[.slice A0_0 l0_0.length c0_0]] rfl (by (try simp only [List.map_toArray, List.map_cons, List.map_nil]); first | done | rfl | (simp only [List.length_drop, List.length_take]; rfl)) ?_; (with_reducible refine (laws_toLamps.calls k _ _ l0_0 t168 _ ?side1 ?side2 A7.out).mono ?_); (case side1 => repeat (first | exact (Kd.C_below HR0_0.out HB.out) | (with_reducible refine Kd.C_alloc ?_ _) | (with_reducible refine Kd.C_drewN ?_ _) | (with_reducible refine Kd.C_drew ?_))); (case side2 => exact HC0_0.out); rintro e w37 ⟨v169, rfl, ho0, hb⟩; refine ⟨_, rfl, ?_⟩; have n0_ := Aside0.mk (Kd.R_lower ho0 (below_size (by repeat (first | (with_reducible first | exact HB.out | apply below_alloc | apply pw_below_drewN | apply below_drew1 | refine below_set ?_ GE166.out) | exact HB.out)))); have n1_ := Aside0.mk (blk_below (g := gb166) (o := .cells #[.slice A0_0 l0_0.length c0_0] 32 (0, 0)) (by (with_reducible repeat (first | refine blk_drewN ?_ _ | refine blk_drew ?_ | refine blk_alloc ?_ _)); exact BK166.out) hb); have n2_ := Aside0.mk (below_step (by repeat (first | (with_reducible first | exact HB.out | apply below_alloc | apply pw_below_drewN | apply below_drew1 | refine below_set ?_ GE166.out) | exact HB.out)) hb); clear BK166; clear HB; have HO170 := n0_; have BK166 := n1_; have HB := n2_; clear n0_ n1_ n2_; (try clear hb); (try clear hb2); (try clear hk); (try clear hi); (try clear ho0); obtain ⟨Ao38, co38, eo38⟩ := Kd.R_slice HO170.out; subst eo38) | ((with_reducible refine gate_callee (f := 40) rfl ?_); refine goesL_ (some 22) rfl rfl Tryd.func40 (by kernel_rfl) rfl #[.agg #[.slice Ao38 t168.length co38]] rfl (by (try simp only [List.map_toArray, List.map_cons, List.map_nil]); first | done | rfl | (simp only [List.length_drop, List.length_take]; rfl)) ?_; (with_reducible refine (spec_StillStates.calls k _ _ t168 t171 t174 _ ?side1 ?side2 A8.out).mono ?_); (case side1 => repeat (first | exact (Kd.R_reads' HO170.out).2.2 | (with_reducible refine Kd.C_alloc ?_ _) | (with_reducible refine Kd.C_drewN ?_ _) | (with_reducible refine Kd.C_drew ?_))); (case side2 => exact (Kd.R_reads' HO170.out).2.1); rintro e w39 ⟨v172, rfl, ho0, hb⟩; refine ⟨_, rfl, ?_⟩; have n0_ := Aside0.mk (Kd.R_elder' (by (with_reducible repeat (first | apply Kd.R_alloc | apply Kd.R_drewN | apply Kd.R_drew)); exact HO170.out) (Kd.R_base ho0) hb); have n1_ := Aside0.mk (Kd.R_lower (Kd.R_new' ho0 (Kd.R_lt (by (with_reducible repeat (first | apply Kd.R_alloc | apply Kd.R_drewN | apply Kd.R_drew)); exact HO170.out))) (below_size (by repeat (first | (with_reducible first | exact HB.out | apply below_alloc | apply pw_below_drewN | apply below_drew1 | refine below_set ?_ GE166.out) | exact HB.out)))); have n2_ := Aside0.mk (blk_below (g := gb166) (o := .cells #[.slice A0_0 l0_0.length c0_0] 32 (0, 0)) (by (with_reducible repeat (first | refine blk_drewN ?_ _ | refine blk_drew ?_ | refine blk_alloc ?_ _)); exact BK166.out) hb); have n3_ := Aside0.mk (below_step (by repeat (first | (with_reducible first | exact HB.out | apply below_alloc | apply pw_below_drewN | apply below_drew1 | refine below_set ?_ GE166.out) | exact HB.out)) hb); clear HO170; clear BK166; clear HB; have HO170 := n0_; have HO173 := n1_; have BK166 := n2_; have HB := n3_; clear n0_ n1_ n2_ n3_; (try clear hb); (try clear hb2); (try clear hk); (try clear hi); (try clear ho0); have hcz40_0 : w39.cell? ⟨gb166, 0, none⟩ = some (.slice A0_0 l0_0.length c0_0) := (blk_cell BK166.out 0).trans rfl; have hfz40_0 := blk_frozen BK166.out 0) | ((with_reducible refine gate_callee (f := 22) rfl ?_); refine goesL_ (some 26) rfl rfl Tryd.func22 (by kernel_rfl) rfl #[.agg #[.slice A0_0 l0_0.length c0_0]] rfl (by (try simp only [List.map_toArray, List.map_cons, List.map_nil]); first | done | rfl | (simp only [List.length_drop, List.length_take]; rfl)) ?_; (with_reducible refine (laws_toLamps.calls k _ _ l0_0 t175 _ ?side1 ?side2 A9.out).mono ?_); (case side1 => repeat (first | exact (Kd.C_below HR0_0.out HB.out) | (with_reducible refine Kd.C_alloc ?_ _) | (with_reducible refine Kd.C_drewN ?_ _) | (with_reducible refine Kd.C_drew ?_))); (case side2 => exact HC0_0.out); rintro e w41 ⟨v176, rfl, ho0, hb⟩; refine ⟨_, rfl, ?_⟩; have n0_ := Aside0.mk (Kd.R_elder' (by (with_reducible repeat (first | apply Kd.R_alloc | apply Kd.R_drewN | apply Kd.R_drew)); exact HO170.out) (Kd.R_base ho0) hb); have n1_ := Aside0.mk (Kd.R_elder' (by (with_reducible repeat (first | apply Kd.R_alloc | apply Kd.R_drewN | apply Kd.R_drew)); exact HO173.out) (Kd.R_base ho0) hb); have n2_ := Aside0.mk (Kd.R_lower (Kd.R_new' (Kd.R_new' ho0 (Kd.R_lt (by (with_reducible repeat (first | apply Kd.R_alloc | apply Kd.R_drewN | apply Kd.R_drew)); exact HO170.out))) (Kd.R_lt (by (with_reducible repeat (first | apply Kd.R_alloc | apply Kd.R_drewN | apply Kd.R_drew)); exact HO173.out))) (below_size (by repeat (first | (with_reducible first | exact HB.out | apply below_alloc | apply pw_below_drewN | apply below_drew1 | refine below_set ?_ GE166.out) | exact HB.out)))); have n3_ := Aside0.mk (blk_below (g := gb166) (o := .cells #[.slice A0_0 l0_0.length c0_0] 32 (0, 0)) (by (with_reducible repeat (first | refine blk_drewN ?_ _ | refine blk_drew ?_ | refine blk_alloc ?_ _)); exact BK166.out) hb); have n4_ := Aside0.mk (below_step (by repeat (first | (with_reducible first | exact HB.out | apply below_alloc | apply pw_below_drewN | apply below_drew1 | refine below_set ?_ GE166.out) | exact HB.out)) hb); clear HO170; clear HO173; clear BK166; clear HB; have HO170 := n0_; have HO173 := n1_; have HO177 := n2_; have BK166 := n3_; have HB := n4_; clear n0_ n1_ n2_ n3_ n4_; (try clear hb); (try clear hb2); (try clear hk); (try clear hi); (try clear ho0)) | ((with_reducible refine gate_dst (N := 6) rfl ?_); refine box_event ?hg (N := 6) ?hd (cs := #[.slice none 0 0]) (t := 37) ?hr ?_; (case hd => rfl); (case hg => rfl); (case hr => first | (go_simp; done) | (go_simp; rfl)); intro gb178 hg w42 hbox hb; have n0_ := Aside0.mk (Kd.R_below (by (with_reducible repeat (first | apply Kd.R_alloc | apply Kd.R_drewN | apply Kd.R_drew)); exact HO170.out) hb); have n1_ := Aside0.mk (Kd.R_below (by (with_reducible repeat (first | apply Kd.R_alloc | apply Kd.R_drewN | apply Kd.R_drew)); exact HO173.out) hb); have n2_ := Aside0.mk (Kd.R_below (by (with_reducible repeat (first | apply Kd.R_alloc | apply Kd.R_drewN | apply Kd.R_drew)); exact HO177.out) hb); have n3_ := Aside0.mk (blk_below (g := gb166) (o := .cells #[.slice A0_0 l0_0.length c0_0] 32 (0, 0)) (by (with_reducible repeat (first | refine blk_drewN ?_ _ | refine blk_drew ?_ | refine blk_alloc ?_ _)); exact BK166.out) hb); have n4_ := Aside0.mk (below_step (by repeat (first | (with_reducible first | exact HB.out | apply below_alloc | apply pw_below_drewN | apply below_drew1 | refine below_set ?_ GE166.out) | exact HB.out)) hb); have n5_ := Aside0.mk (hbox); have n6_ := Aside0.mk ((by rw [hg]; exact (below_size (by repeat (first | (with_reducible first | exact HB.out | apply below_alloc | apply pw_below_drewN | apply below_drew1 | refine below_set ?_ GE166.out) | exact HB.out))) : w.heap.size ≤ gb178)); have n7_ := Aside0.mk ((by rw [hg]; exact (below_size (by repeat (first | (with_reducible first | exact HB.out | apply below_alloc | apply pw_below_drewN | apply below_drew1 | refine below_set ?_ GE166.out) | exact HB.out))) : w.heap.size ≤ gb178)); have n8_ := Aside0.mk ((by rw [hg]; exact Nat.ne_of_lt (blk_lt (g := gb166) (o := .cells #[.slice A0_0 l0_0.length c0_0] 32 (0, 0)) (by (with_reducible repeat (first | refine blk_drewN ?_ _ | refine blk_drew ?_ | refine blk_alloc ?_ _)); exact BK166.out)) : gb166 ≠ gb178)); have n9_ := Aside0.mk ((by rw [hg]; exact Nat.ne_of_gt (blk_lt (g := gb166) (o := .cells #[.slice A0_0 l0_0.length c0_0] 32 (0, 0)) (by (with_reducible repeat (first | refine blk_drewN ?_ _ | refine blk_drew ?_ | refine blk_alloc ?_ _)); exact BK166.out)) : gb178 ≠ gb166)); clear HO170; clear HO173; clear HO177; clear BK166; clear HB; have HO170 := n0_; have HO173 := n1_; have HO177 := n2_; have BK166 := n3_; have HB := n4_; have BK178 := n5_; have GW178 := n6_; have GE178 := n7_; have NB166_178 := n8_; have NB178_166 := n9_; clear n0_ n1_ n2_ n3_ n4_ n5_ n6_ n7_ n8_ n9_; clear hb hbox hg; obtain ⟨Ao43, co43, eo43⟩ := Kd.R_slice HO177.out; subst eo43; have hnb44 := NB178_166.out; have hnc44 := NB166_178.out; have hcz45_0 : w42.cell? ⟨gb178, 0, none⟩ = some (.slice none 0 0) := (blk_cell BK178.out 0).trans rfl; have hfz45_0 := blk_frozen BK178.out 0) | ((with_reducible refine gate_callee (f := 41) rfl ?_); refine goesL_ (some 29) rfl rfl Tryd.func41 (by kernel_rfl) rfl #[.agg #[.slice Ao43 t175.length co43]] rfl (by (try simp only [List.map_toArray, List.map_cons, List.map_nil]); first | done | rfl | (simp only [List.length_drop, List.length_take]; rfl)) ?_; (with_reducible refine (impl_StillStates.calls _ _ t175 t179 t182 _ ?side1 ?side2 A10.out).mono ?_); (case side1 => refine (Kd.R_reads' (e := 9) (base := w.heap.size) (ok := fun k_ => ((True ∧ some k_ ≠ (.slice Ao38 t168.length co38 : Value).ownBlock) ∧ some k_ ≠ (v172 : Value).ownBlock)) (n := t175.length) (c := co43) ?_).2.2; exact (by (with_reducible repeat (first | apply Kd.R_alloc | apply Kd.R_drewN | apply Kd.R_drew)); exact (Kd.R_mono (Kd.R_far (p := ⟨gb178, 0, none⟩) (Kd.R_types HO177.out BK178.out (by decide)) (fun _ hk => hk.2) (.slice Ao43 t175.length co43)) (fun _ h_ => h_.1)))); (case side2 => exact (Kd.R_reads' HO177.out).2.1); rintro e w46 ⟨v180, rfl, ho0, hb⟩; refine ⟨_, rfl, ?_⟩; have n0_ := Aside0.mk (Kd.R_elder' (by (with_reducible repeat (first | apply Kd.R_alloc | apply Kd.R_drewN | apply Kd.R_drew)); exact (Kd.R_mono (Kd.R_far (p := ⟨gb178, 0, none⟩) (Kd.R_types HO170.out BK178.out (by decide)) (fun _ hk => hk.2) (.slice Ao43 t175.length co43)) (fun _ h_ => h_.1))) (Kd.R_base ho0) hb); have n1_ := Aside0.mk (Kd.R_elder' (by (with_reducible repeat (first | apply Kd.R_alloc | apply Kd.R_drewN | apply Kd.R_drew)); exact (Kd.R_mono (Kd.R_far (p := ⟨gb178, 0, none⟩) (Kd.R_types HO173.out BK178.out (by decide)) (fun _ hk => hk.2) (.slice Ao43 t175.length co43)) (fun _ h_ => h_.1))) (Kd.R_base ho0) hb); have n2_ := Aside0.mk (Kd.R_elder' (by (with_reducible repeat (first | apply Kd.R_alloc | apply Kd.R_drewN | apply Kd.R_drew)); exact (Kd.R_mono (Kd.R_far (p := ⟨gb178, 0, none⟩) (Kd.R_types HO177.out BK178.out (by decide)) (fun _ hk => hk.2) (.slice Ao43 t175.length co43)) (fun _ h_ => h_.1))) (Kd.R_base ho0) hb); have n3_ := Aside0.mk (Kd.R_lower (Kd.R_new' (Kd.R_new' (Kd.R_new' ho0 (Kd.R_lt (by (with_reducible repeat (first | apply Kd.R_alloc | apply Kd.R_drewN | apply Kd.R_drew)); exact (Kd.R_mono (Kd.R_far (p := ⟨gb178, 0, none⟩) (Kd.R_types HO170.out BK178.out (by decide)) (fun _ hk => hk.2) (.slice Ao43 t175.length co43)) (fun _ h_ => h_.1))))) (Kd.R_lt (by (with_reducible repeat (first | apply Kd.R_alloc | apply Kd.R_drewN | apply Kd.R_drew)); exact (Kd.R_mono (Kd.R_far (p := ⟨gb178, 0, none⟩) (Kd.R_types HO173.out BK178.out (by decide)) (fun _ hk => hk.2) (.slice Ao43 t175.length co43)) (fun _ h_ => h_.1))))) (Kd.R_lt (by (with_reducible repeat (first | apply Kd.R_alloc | apply Kd.R_drewN | apply Kd.R_drew)); exact (Kd.R_mono (Kd.R_far (p := ⟨gb178, 0, none⟩) (Kd.R_types HO177.out BK178.out (by decide)) (fun _ hk => hk.2) (.slice Ao43 t175.length co43)) (fun _ h_ => h_.1))))) (below_size (by repeat (first | (with_reducible first | exact HB.out | apply below_alloc | apply pw_below_drewN | apply below_drew1 | refine below_set ?_ GE166.out | refine below_set ?_ GE178.out) | exact HB.out)))); have n4_ := Aside0.mk (blk_below (g := gb166) (o := .cells #[.slice A0_0 l0_0.length c0_0] 32 (0, 0)) (by (with_reducible repeat (first | refine blk_drewN ?_ _ | refine blk_drew ?_ | refine blk_alloc ?_ _)); refine blk_far ?_ NB166_178.out _; (with_reducible repeat (first | refine blk_drewN ?_ _ | refine blk_drew ?_ | refine blk_alloc ?_ _)); exact BK166.out) hb); have n5_ := Aside0.mk (blk_below (g := gb178) (o := .cells #[.slice Ao43 t175.length co43] 37 (0, 0)) (by (with_reducible repeat (first | refine blk_drewN ?_ _ | refine blk_drew ?_ | refine blk_alloc ?_ _)); refine blk_put (cs := #[.slice none 0 0]) ?_ 0 _ rfl; (with_reducible repeat (first | refine blk_drewN ?_ _ | refine blk_drew ?_ | refine blk_alloc ?_ _)); exact BK178.out) hb); have n6_ := Aside0.mk (below_step (by repeat (first | (with_reducible first | exact HB.out | apply below_alloc | apply pw_below_drewN | apply below_drew1 | refine below_set ?_ GE166.out | refine below_set ?_ GE178.out) | exact HB.out)) hb); clear HO170; clear HO173; clear HO177; clear BK166; clear BK178; clear HB; have HO170 := n0_; have HO173 := n1_; have HO177 := n2_; have HO181 := n3_; have BK166 := n4_; have BK178 := n5_; have HB := n6_; clear n0_ n1_ n2_ n3_ n4_ n5_ n6_; (try clear hb); (try clear hb2); (try clear hk); (try clear hi); (try clear ho0); obtain ⟨Ao47, co47, eo47⟩ := Kd.R_slice HO181.out; subst eo47; obtain ⟨Ao48, co48, eo48⟩ := Kd.R_slice HO173.out; subst eo48) | ((with_reducible refine gate_callee (f := 42) rfl ?_); refine goesL_ (some 34) rfl rfl Tryd.func42 (by kernel_rfl) rfl #[.slice Ao47 t179.length co47, .slice Ao48 t171.length co48] rfl (by (try simp only [List.map_toArray, List.map_cons, List.map_nil]); first | done | rfl | (simp only [List.length_drop, List.length_take]; rfl)) ?_; (with_reducible refine (laws_eqStringS.calls k _ _ t179 _ _ t171 true _ ?side1 ?side2 ?side3 ?side4 A11.out).mono ?_); (case side1 => repeat (first | exact (Kd.R_reads' HO181.out).2.2 | (with_reducible refine Kd.C_alloc ?_ _) | (with_reducible refine Kd.C_drewN ?_ _) | (with_reducible refine Kd.C_drew ?_))); (case side2 => exact (Kd.R_reads' HO181.out).2.1); (case side3 => repeat (first | exact (Kd.R_reads' HO173.out).2.2 | (with_reducible refine Kd.C_alloc ?_ _) | (with_reducible refine Kd.C_drewN ?_ _) | (with_reducible refine Kd.C_drew ?_))); (case side4 => exact (Kd.R_reads' HO173.out).2.1); rintro e w' ⟨rfl, ⟨nd, rfl⟩⟩; refine ⟨_, rfl, ?_⟩))
             (try (rw [drewN_self w46]; generalize hq_ : World.drewN w46 _ = w46; have n0_ : Aside0 (Kd.R Kd.string 9 w46 w.heap.size (fun k_ => some k_ ≠ (.slice Ao48 t171.length co48 : Value).ownBlock ∧ some k_ ≠ (.slice Ao43 t175.length co43 : Value).ownBlock ∧ some k_ ≠ (.slice Ao47 t179.length co47 : Value).ownBlock) (.slice Ao38 t168.length co38) t168) := ⟨by rw [← hq_]; exact (by (with_reducible repeat (first | apply Kd.R_alloc | apply Kd.R_drewN | apply Kd.R_drew)); exact Kd.R_mono HO170.out (fun _ hk => ⟨hk.1.1.2, ⟨hk.1.2, hk.2⟩⟩))⟩; have n1_ : Aside0 (Kd.R Kd.string 9 w46 w.heap.size (fun k_ => some k_ ≠ (.slice Ao38 t168.length co38 : Value).ownBlock ∧ some k_ ≠ (.slice Ao43 t175.length co43 : Value).ownBlock ∧ some k_ ≠ (.slice Ao47 t179.length co47 : Value).ownBlock) (.slice Ao48 t171.length co48) t171) := ⟨by rw [← hq_]; exact (by (with_reducible repeat (first | apply Kd.R_alloc | apply Kd.R_drewN | apply Kd.R_drew)); exact Kd.R_mono HO173.out (fun _ hk => ⟨hk.1.1.2, ⟨hk.1.2, hk.2⟩⟩))⟩; have n2_ : Aside0 (Kd.R Kd.string 9 w46 w.heap.size (fun k_ => some k_ ≠ (.slice Ao38 t168.length co38 : Value).ownBlock ∧ some k_ ≠ (.slice Ao48 t171.length co48 : Value).ownBlock ∧ some k_ ≠ (.slice Ao47 t179.length co47 : Value).ownBlock) (.slice Ao43 t175.length co43) t175) := ⟨by rw [← hq_]; exact (by (with_reducible repeat (first | apply Kd.R_alloc | apply Kd.R_drewN | apply Kd.R_drew)); exact Kd.R_mono HO177.out (fun _ hk => ⟨hk.1.1.2, ⟨hk.1.2, hk.2⟩⟩))⟩; have n3_ : Aside0 (Kd.R Kd.string 9 w46 w.heap.size (fun k_ => some k_ ≠ (.slice Ao38 t168.length co38 : Value).ownBlock ∧ some k_ ≠ (.slice Ao48 t171.length co48 : Value).ownBlock ∧ some k_ ≠ (.slice Ao43 t175.length co43 : Value).ownBlock) (.slice Ao47 t179.length co47) t179) := ⟨by rw [← hq_]; exact (by (with_reducible repeat (first | apply Kd.R_alloc | apply Kd.R_drewN | apply Kd.R_drew)); exact Kd.R_mono HO181.out (fun _ hk => ⟨hk.1.1.2, ⟨hk.1.2, hk.2⟩⟩))⟩; have n4_ : Aside0 (w46.heap[gb166]? = some (.cells #[.slice A0_0 l0_0.length c0_0] 32 (0, 0))) := ⟨by rw [← hq_]; exact (by (with_reducible repeat (first | refine blk_drewN ?_ _ | refine blk_drew ?_ | refine blk_alloc ?_ _)); exact BK166.out)⟩; have n5_ : Aside0 (w46.heap[gb178]? = some (.cells #[.slice Ao43 t175.length co43] 37 (0, 0))) := ⟨by rw [← hq_]; exact (by (with_reducible repeat (first | refine blk_drewN ?_ _ | refine blk_drew ?_ | refine blk_alloc ?_ _)); exact BK178.out)⟩; have n6_ : Aside0 (Below w.heap.size w w46) := ⟨by rw [← hq_]; exact (by repeat (first | (with_reducible first | exact HB.out | apply below_alloc | apply pw_below_drewN | apply below_drew1 | refine below_set ?_ GE166.out | refine below_set ?_ GE178.out) | exact HB.out))⟩; clear HO170 HO173 HO177 HO181 BK166 BK178 HB hq_; have HO170 := n0_; have HO173 := n1_; have HO177 := n2_; have HO181 := n3_; have BK166 := n4_; have BK178 := n5_; have HB := n6_; clear n0_ n1_ n2_ n3_ n4_ n5_ n6_))
             have n0_ := Aside0.mk (Kd.R_drew HO170.out)
             have n1_ := Aside0.mk (Kd.R_drew HO173.out)
             have n2_ := Aside0.mk (Kd.R_drew HO177.out)
             have n3_ := Aside0.mk (Kd.R_drew HO181.out)
             have n4_ := Aside0.mk (blk_drew BK166.out)
             have n5_ := Aside0.mk (blk_drew BK178.out)
             have n6_ := Aside0.mk (below_drew1 HB.out)
             clear HO170
             clear HO173
             clear HO177
             clear HO181
             clear BK166
             clear BK178
             clear HB
             have HO170 := n0_
             have HO173 := n1_
             have HO177 := n2_
             have HO181 := n3_
             have BK166 := n4_
             have BK178 := n5_
             have HB := n6_
             clear n0_ n1_ n2_ n3_ n4_ n5_ n6_
             refine start_ (n := 5) (S := fun w' => w'.cell? ⟨gb178, 0, none⟩ = some (.slice Ao43 t175.length co43) ∧ w'.cell? ⟨gb166, 0, none⟩ = some (.slice A0_0 l0_0.length c0_0)) (ds := []) #[false, false, false, false, false] (by kernel_rfl) rfl rfl ⟨(blk_cell BK178.out 0).trans rfl, (blk_cell BK166.out 0).trans rfl⟩ (fun hHeld => ?_)
             generalize w46.drew = w49 at HO170 HO173 HO177 HO181 BK166 BK178 HB hHeld ⊢
             refine take_ (i := 0) (N := some 41) (v := ?_) (a' := ?_) #[true, false, false, false, false] rfl rfl (by kernel_rfl) (fun _ _ _ h => h) (Or.inl ⟨by rfl, ?_⟩) hHeld ?_ ?_
             rotate_left
             ·rintro w' ⟨s0, s1⟩
              go_simp
              with_reducible rfl
             rotate_left
             ·simp only [Act.put, List.setIfInBounds_toArray, List.set_cons_zero, List.set_cons_succ, i64_w, i32_w]
              rfl
             refine take_ (i := 1) (N := some 42) (v := ?_) (a' := ?_) #[true, true, false, false, false] rfl rfl (by kernel_rfl) (fun _ _ _ h => h) (Or.inl ⟨by rfl, ?_⟩) hHeld ?_ ?_
             rotate_left
             ·rintro w' ⟨s0, s1⟩
              go_simp
              with_reducible rfl
             rotate_left
             ·simp only [Act.put, List.setIfInBounds_toArray, List.set_cons_zero, List.set_cons_succ, i64_w, i32_w]
              rfl
             refine one_ (i := 2) (N := some 43) #[true, true, true, false, false] rfl rfl (by kernel_rfl) (by decide) (fun K hK => ?_)
             refine goes_ Tryd.func22 (by kernel_rfl) rfl #[.agg #[.slice A0_0 l0_0.length c0_0]] (by rfl) rfl rfl (by (try simp only [List.map_toArray, List.map_cons, List.map_nil]); first | done | rfl | (simp only [List.length_drop, List.length_take]; rfl)) ?_
             with_reducible refine (laws_toLamps.calls k _ _ l0_0 t184 _ ?side1 ?side2 A14.out).mono ?_
             (case side1 => repeat (first | exact (Kd.C_below HR0_0.out HB.out) | (with_reducible refine Kd.C_alloc ?_ _) | (with_reducible refine Kd.C_drewN ?_ _) | (with_reducible refine Kd.C_drew ?_)))
             (case side2 => exact HC0_0.out)
             rintro e w50 ⟨v185, rfl, ho0, hb⟩
             refine ⟨_, rfl, ?_⟩
             have n0_ := Aside0.mk (Kd.R_elder' (by (with_reducible repeat (first | apply Kd.R_alloc | apply Kd.R_drewN | apply Kd.R_drew)); exact HO170.out) (Kd.R_base ho0) hb)
             have n1_ := Aside0.mk (Kd.R_elder' (by (with_reducible repeat (first | apply Kd.R_alloc | apply Kd.R_drewN | apply Kd.R_drew)); exact HO173.out) (Kd.R_base ho0) hb)
             have n2_ := Aside0.mk (Kd.R_elder' (by (with_reducible repeat (first | apply Kd.R_alloc | apply Kd.R_drewN | apply Kd.R_drew)); exact HO177.out) (Kd.R_base ho0) hb)
             have n3_ := Aside0.mk (Kd.R_elder' (by (with_reducible repeat (first | apply Kd.R_alloc | apply Kd.R_drewN | apply Kd.R_drew)); exact HO181.out) (Kd.R_base ho0) hb)
             have n4_ := Aside0.mk (Kd.R_lower (Kd.R_new' (Kd.R_new' (Kd.R_new' (Kd.R_new' ho0 (Kd.R_lt (by (with_reducible repeat (first | apply Kd.R_alloc | apply Kd.R_drewN | apply Kd.R_drew)); exact HO170.out))) (Kd.R_lt (by (with_reducible repeat (first | apply Kd.R_alloc | apply Kd.R_drewN | apply Kd.R_drew)); exact HO173.out))) (Kd.R_lt (by (with_reducible repeat (first | apply Kd.R_alloc | apply Kd.R_drewN | apply Kd.R_drew)); exact HO177.out))) (Kd.R_lt (by (with_reducible repeat (first | apply Kd.R_alloc | apply Kd.R_drewN | apply Kd.R_drew)); exact HO181.out))) (below_size (by repeat (first | (with_reducible first | exact HB.out | apply below_alloc | apply pw_below_drewN | apply below_drew1 | refine below_set ?_ GE166.out | refine below_set ?_ GE178.out) | exact HB.out))))
             have n5_ := Aside0.mk (blk_below (g := gb166) (o := .cells #[.slice A0_0 l0_0.length c0_0] 32 (0, 0)) (by (with_reducible repeat (first | refine blk_drewN ?_ _ | refine blk_drew ?_ | refine blk_alloc ?_ _)); exact BK166.out) hb)
             have n6_ := Aside0.mk (blk_below (g := gb178) (o := .cells #[.slice Ao43 t175.length co43] 37 (0, 0)) (by (with_reducible repeat (first | refine blk_drewN ?_ _ | refine blk_drew ?_ | refine blk_alloc ?_ _)); exact BK178.out) hb)
             have n7_ := Aside0.mk (below_step (by repeat (first | (with_reducible first | exact HB.out | apply below_alloc | apply pw_below_drewN | apply below_drew1 | refine below_set ?_ GE166.out | refine below_set ?_ GE178.out) | exact HB.out)) hb)
             clear HO170
             clear HO173
             clear HO177
             clear HO181
             clear BK166
             clear BK178
             clear HB
             have HO170 := n0_
             have HO173 := n1_
             have HO177 := n2_
             have HO181 := n3_
             have HO186 := n4_
             have BK166 := n5_
             have BK178 := n6_
             have HB := n7_
             clear n0_ n1_ n2_ n3_ n4_ n5_ n6_ n7_
             (try clear hb)
             (try clear hb2)
             (try clear hk)
             (try clear hi)
             (try clear ho0)
             obtain ⟨Ao51, co51, eo51⟩ := Kd.R_slice HO186.out
             (first | subst eo51 | (injection eo51 with f1_ f2_ f3_; have f4_ := f1_.symm; have f5_ := f3_.symm; clear f1_ f2_ f3_; subst f4_; subst f5_))
             refine hK.out _ _ ⟨(blk_cell BK178.out 0).trans rfl, (blk_cell BK166.out 0).trans rfl⟩ (fun hHeld => ?_)
             clear hK K
             refine norm_ (a' := ?_) ?_ ?_
             rotate_left
             ·show Act.put _ (some 43) _ = _
              simp only [Act.put, List.setIfInBounds_toArray, List.set_cons_zero, List.set_cons_succ, i64_w, i32_w]
              rfl
             refine one_ (i := 3) (N := some 44) #[true, true, true, true, false] rfl rfl (by kernel_rfl) (by decide) (fun K hK => ?_)
             refine goes_ Tryd.func25 (by kernel_rfl) rfl #[.agg #[.slice Ao43 t175.length co43], .agg #[.slice Ao51 t184.length co51]] (by rfl) rfl rfl (by (try simp only [List.map_toArray, List.map_cons, List.map_nil]); first | done | rfl | (simp only [List.length_drop, List.length_take]; rfl)) ?_
             with_reducible refine (laws_eqLamps.calls k _ _ t175 _ _ t184 true _ ?side1 ?side2 ?side3 ?side4 A15.out).mono ?_
             (case side1 => repeat (first | exact (Kd.R_reads' HO177.out).2.2 | (with_reducible refine Kd.C_alloc ?_ _) | (with_reducible refine Kd.C_drewN ?_ _) | (with_reducible refine Kd.C_drew ?_)))
             (case side2 => exact (Kd.R_reads' HO177.out).2.1)
             (case side3 => repeat (first | exact (Kd.R_reads' HO186.out).2.2 | (with_reducible refine Kd.C_alloc ?_ _) | (with_reducible refine Kd.C_drewN ?_ _) | (with_reducible refine Kd.C_drew ?_)))
             (case side4 => exact (Kd.R_reads' HO186.out).2.1)
             rintro e w52 ⟨rfl, hb⟩
             refine ⟨_, rfl, ?_⟩
             have n0_ := Aside0.mk (Kd.R_below (by (with_reducible repeat (first | apply Kd.R_alloc | apply Kd.R_drewN | apply Kd.R_drew)); exact HO170.out) hb)
             have n1_ := Aside0.mk (Kd.R_below (by (with_reducible repeat (first | apply Kd.R_alloc | apply Kd.R_drewN | apply Kd.R_drew)); exact HO173.out) hb)
             have n2_ := Aside0.mk (Kd.R_below (by (with_reducible repeat (first | apply Kd.R_alloc | apply Kd.R_drewN | apply Kd.R_drew)); exact HO177.out) hb)
             have n3_ := Aside0.mk (Kd.R_below (by (with_reducible repeat (first | apply Kd.R_alloc | apply Kd.R_drewN | apply Kd.R_drew)); exact HO181.out) hb)
             have n4_ := Aside0.mk (Kd.R_below (by (with_reducible repeat (first | apply Kd.R_alloc | apply Kd.R_drewN | apply Kd.R_drew)); exact HO186.out) hb)
             have n5_ := Aside0.mk (blk_below (g := gb166) (o := .cells #[.slice A0_0 l0_0.length c0_0] 32 (0, 0)) (by (with_reducible repeat (first | refine blk_drewN ?_ _ | refine blk_drew ?_ | refine blk_alloc ?_ _)); exact BK166.out) hb)
             have n6_ := Aside0.mk (blk_below (g := gb178) (o := .cells #[.slice Ao43 t175.length co43] 37 (0, 0)) (by (with_reducible repeat (first | refine blk_drewN ?_ _ | refine blk_drew ?_ | refine blk_alloc ?_ _)); exact BK178.out) hb)
             have n7_ := Aside0.mk (below_step (by repeat (first | (with_reducible first | exact HB.out | apply below_alloc | apply pw_below_drewN | apply below_drew1 | refine below_set ?_ GE166.out | refine below_set ?_ GE178.out) | exact HB.out)) hb)
             clear HO170
             clear HO173
             clear HO177
             clear HO181
             clear HO186
             clear BK166
             clear BK178
             clear HB
             have HO170 := n0_
             have HO173 := n1_
             have HO177 := n2_
             have HO181 := n3_
             have HO186 := n4_
             have BK166 := n5_
             have BK178 := n6_
             have HB := n7_
             clear n0_ n1_ n2_ n3_ n4_ n5_ n6_ n7_
             (try clear hb)
             (try clear hb2)
             (try clear hk)
             (try clear hi)
             refine hK.out _ _ ⟨(blk_cell BK178.out 0).trans rfl, (blk_cell BK166.out 0).trans rfl⟩ (fun hHeld => ?_)
             clear hK K
             refine norm_ (a' := ?_) ?_ ?_
             rotate_left
             ·show Act.put _ (some 44) _ = _
              simp only [Act.put, List.setIfInBounds_toArray, List.set_cons_zero, List.set_cons_succ, i64_w, i32_w]
              rfl
             refine pure_ (i := 4) (N := some 45) (v := ?_) (a' := ?_) #[true, true, true, true, true] rfl rfl (by kernel_rfl) (fun _ _ _ h => h) (Or.inl ⟨by rfl, ?_⟩) ?_ ?_
             rotate_left
             ·intro w'
              go_simp
              with_reducible rfl
             rotate_left
             ·simp only [Act.put, List.setIfInBounds_toArray, List.set_cons_zero, List.set_cons_succ, i64_w, i32_w]
              rfl
             refine done_ (by kernel_rfl) ?_
             have hcz53_0 : w52.cell? ⟨gb178, 0, none⟩ = some (.slice Ao43 t175.length co43) := (blk_cell BK178.out 0).trans rfl
             have hfz53_0 := blk_frozen BK178.out 0
             try go_wp2_with (first | ((with_reducible refine gate_callee (f := 26) rfl ?_); refine goesL_ (some 48) rfl rfl Tryd.func26 (by kernel_rfl) rfl #[.agg #[.slice Ao43 t175.length co43], .int .i64 1] rfl (by (try simp only [List.map_toArray, List.map_cons, List.map_nil]); first | done | rfl | (simp only [List.length_drop, List.length_take]; rfl)) ?_; (with_reducible refine (laws_markLamps.calls k (fun k_ => some k_ = (.slice Ao43 t175.length co43 : Value).ownBlock) (.slice Ao43 t175.length co43) t175 1 t188 t189 w _ ?side1 ?side2 A17.out).mono ?_); (case side1 => repeat (first | (with_reducible first | exact HB.out | apply below_alloc | apply pw_below_drewN | apply below_drew1 | refine below_set ?_ GE166.out | refine below_set ?_ GE178.out) | exact HB.out)); (case side2 => exact Kd.R_tight rfl HO177.out); rintro e w54 ⟨rfl, hy0, hb, hkp⟩; refine ⟨_, rfl, ?_⟩; have n0_ := Aside0.mk (blk_kept (by (with_reducible repeat (first | refine blk_drewN ?_ _ | refine blk_drew ?_ | refine blk_alloc ?_ _)); exact BK166.out) hkp (fun hs_ => (fun e_ => (Kd.R_ne HO177.out BK166.out (by decide)) e_) hs_)); have n1_ := Aside0.mk (Kd.R_mono (ok' := fun k_ => some k_ ≠ (.slice Ao48 t171.length co48 : Value).ownBlock ∧ some k_ ≠ (.slice Ao43 t175.length co43 : Value).ownBlock ∧ some k_ ≠ (.slice Ao47 t179.length co47 : Value).ownBlock ∧ some k_ ≠ (.slice Ao51 t184.length co51 : Value).ownBlock) (Kd.R_keptB (HO170.out) hkp (by intro k_ hk_ hs_; first | exact hk_.1.2 hs_ | exact hk_.2 hs_ | exact hk_.1.1 hs_ | exact hk_.1 hs_ | exact hk_.1.1.2 hs_ | exact hk_.1.2.1 hs_ | exact hk_.1.2.2 hs_ | exact hk_.2.1 hs_ | exact hk_.2.2 hs_ | exact hk_.1.1.1 hs_ | exact hk_.2.1.1 hs_ | exact hk_.2.1.2 hs_ | exact hk_.2.2.1 hs_ | exact hk_.2.2.2 hs_ | exact hk_.1.1.2.1 hs_ | exact hk_.1.1.1.2 hs_ | exact hk_.1.1.1.1 hs_ | exact hk_.1.1.2.2 hs_ | exact hk_.1.2.2.1 hs_ | exact hk_.1.2.2.2 hs_ | exact hk_.1.1.1.1.2 hs_ | exact hk_.1.2.2.2.1 hs_ | exact hk_.1.2.2.2.2 hs_ | exact hk_ hs_)) (by intro k_ hk_; (repeat' refine And.intro ?_ ?_) <;> (first | exact hk_.1.2 | exact hk_.2 | exact hk_.1.1 | exact hk_.1 | exact hk_.1.1.2 | exact hk_.1.2.1 | exact hk_.1.2.2 | exact hk_.2.1 | exact hk_.2.2 | exact hk_.1.1.1 | exact hk_.2.1.1 | exact hk_.2.1.2 | exact hk_.2.2.1 | exact hk_.2.2.2 | exact hk_.1.1.2.1 | exact hk_.1.1.1.2 | exact hk_.1.1.1.1 | exact hk_.1.1.2.2 | exact hk_.1.2.2.1 | exact hk_.1.2.2.2 | exact hk_.1.1.1.1.2 | exact hk_.1.2.2.2.1 | exact hk_.1.2.2.2.2 | exact hk_))); have n2_ := Aside0.mk (Kd.R_mono (ok' := fun k_ => some k_ ≠ (.slice Ao38 t168.length co38 : Value).ownBlock ∧ some k_ ≠ (.slice Ao43 t175.length co43 : Value).ownBlock ∧ some k_ ≠ (.slice Ao47 t179.length co47 : Value).ownBlock ∧ some k_ ≠ (.slice Ao51 t184.length co51 : Value).ownBlock) (Kd.R_keptB (HO173.out) hkp (by intro k_ hk_ hs_; first | exact hk_.1.2 hs_ | exact hk_.2 hs_ | exact hk_.1.1 hs_ | exact hk_.1 hs_ | exact hk_.1.1.2 hs_ | exact hk_.1.2.1 hs_ | exact hk_.1.2.2 hs_ | exact hk_.2.1 hs_ | exact hk_.2.2 hs_ | exact hk_.1.1.1 hs_ | exact hk_.2.1.1 hs_ | exact hk_.2.1.2 hs_ | exact hk_.2.2.1 hs_ | exact hk_.2.2.2 hs_ | exact hk_.1.1.2.1 hs_ | exact hk_.1.1.1.2 hs_ | exact hk_.1.1.1.1 hs_ | exact hk_.1.1.2.2 hs_ | exact hk_.1.2.2.1 hs_ | exact hk_.1.2.2.2 hs_ | exact hk_.1.1.1.1.2 hs_ | exact hk_.1.2.2.2.1 hs_ | exact hk_.1.2.2.2.2 hs_ | exact hk_ hs_)) (by intro k_ hk_; (repeat' refine And.intro ?_ ?_) <;> (first | exact hk_.1.2 | exact hk_.2 | exact hk_.1.1 | exact hk_.1 | exact hk_.1.1.2 | exact hk_.1.2.1 | exact hk_.1.2.2 | exact hk_.2.1 | exact hk_.2.2 | exact hk_.1.1.1 | exact hk_.2.1.1 | exact hk_.2.1.2 | exact hk_.2.2.1 | exact hk_.2.2.2 | exact hk_.1.1.2.1 | exact hk_.1.1.1.2 | exact hk_.1.1.1.1 | exact hk_.1.1.2.2 | exact hk_.1.2.2.1 | exact hk_.1.2.2.2 | exact hk_.1.1.1.1.2 | exact hk_.1.2.2.2.1 | exact hk_.1.2.2.2.2 | exact hk_))); have n3_ := Aside0.mk (Kd.R_reok rfl hy0 (fun k_ e_ => HO177.out.1 k_ e_)); have n4_ := Aside0.mk (blk_kept (by (with_reducible repeat (first | refine blk_drewN ?_ _ | refine blk_drew ?_ | refine blk_alloc ?_ _)); exact BK178.out) hkp (fun hs_ => (fun e_ => (Kd.R_ne HO177.out BK178.out (by decide)) e_) hs_)); have n5_ := Aside0.mk (Kd.R_mono (ok' := fun k_ => some k_ ≠ (.slice Ao38 t168.length co38 : Value).ownBlock ∧ some k_ ≠ (.slice Ao48 t171.length co48 : Value).ownBlock ∧ some k_ ≠ (.slice Ao43 t175.length co43 : Value).ownBlock ∧ some k_ ≠ (.slice Ao51 t184.length co51 : Value).ownBlock) (Kd.R_keptB (HO181.out) hkp (by intro k_ hk_ hs_; first | exact hk_.1.2 hs_ | exact hk_.2 hs_ | exact hk_.1.1 hs_ | exact hk_.1 hs_ | exact hk_.1.1.2 hs_ | exact hk_.1.2.1 hs_ | exact hk_.1.2.2 hs_ | exact hk_.2.1 hs_ | exact hk_.2.2 hs_ | exact hk_.1.1.1 hs_ | exact hk_.2.1.1 hs_ | exact hk_.2.1.2 hs_ | exact hk_.2.2.1 hs_ | exact hk_.2.2.2 hs_ | exact hk_.1.1.2.1 hs_ | exact hk_.1.1.1.2 hs_ | exact hk_.1.1.1.1 hs_ | exact hk_.1.1.2.2 hs_ | exact hk_.1.2.2.1 hs_ | exact hk_.1.2.2.2 hs_ | exact hk_.1.1.1.1.2 hs_ | exact hk_.1.2.2.2.1 hs_ | exact hk_.1.2.2.2.2 hs_ | exact hk_ hs_)) (by intro k_ hk_; (repeat' refine And.intro ?_ ?_) <;> (first | exact hk_.1.2 | exact hk_.2 | exact hk_.1.1 | exact hk_.1 | exact hk_.1.1.2 | exact hk_.1.2.1 | exact hk_.1.2.2 | exact hk_.2.1 | exact hk_.2.2 | exact hk_.1.1.1 | exact hk_.2.1.1 | exact hk_.2.1.2 | exact hk_.2.2.1 | exact hk_.2.2.2 | exact hk_.1.1.2.1 | exact hk_.1.1.1.2 | exact hk_.1.1.1.1 | exact hk_.1.1.2.2 | exact hk_.1.2.2.1 | exact hk_.1.2.2.2 | exact hk_.1.1.1.1.2 | exact hk_.1.2.2.2.1 | exact hk_.1.2.2.2.2 | exact hk_))); have n6_ := Aside0.mk (Kd.R_mono (ok' := fun k_ => some k_ ≠ (.slice Ao38 t168.length co38 : Value).ownBlock ∧ some k_ ≠ (.slice Ao48 t171.length co48 : Value).ownBlock ∧ some k_ ≠ (.slice Ao43 t175.length co43 : Value).ownBlock ∧ some k_ ≠ (.slice Ao47 t179.length co47 : Value).ownBlock) (Kd.R_keptB (HO186.out) hkp (by intro k_ hk_ hs_; first | exact hk_.1.2 hs_ | exact hk_.2 hs_ | exact hk_.1.1 hs_ | exact hk_.1 hs_ | exact hk_.1.1.2 hs_ | exact hk_.1.2.1 hs_ | exact hk_.1.2.2 hs_ | exact hk_.2.1 hs_ | exact hk_.2.2 hs_ | exact hk_.1.1.1 hs_ | exact hk_.2.1.1 hs_ | exact hk_.2.1.2 hs_ | exact hk_.2.2.1 hs_ | exact hk_.2.2.2 hs_ | exact hk_.1.1.2.1 hs_ | exact hk_.1.1.1.2 hs_ | exact hk_.1.1.1.1 hs_ | exact hk_.1.1.2.2 hs_ | exact hk_.1.2.2.1 hs_ | exact hk_.1.2.2.2 hs_ | exact hk_.1.1.1.1.2 hs_ | exact hk_.1.2.2.2.1 hs_ | exact hk_.1.2.2.2.2 hs_ | exact hk_ hs_)) (by intro k_ hk_; (repeat' refine And.intro ?_ ?_) <;> (first | exact hk_.1.2 | exact hk_.2 | exact hk_.1.1 | exact hk_.1 | exact hk_.1.1.2 | exact hk_.1.2.1 | exact hk_.1.2.2 | exact hk_.2.1 | exact hk_.2.2 | exact hk_.1.1.1 | exact hk_.2.1.1 | exact hk_.2.1.2 | exact hk_.2.2.1 | exact hk_.2.2.2 | exact hk_.1.1.2.1 | exact hk_.1.1.1.2 | exact hk_.1.1.1.1 | exact hk_.1.1.2.2 | exact hk_.1.2.2.1 | exact hk_.1.2.2.2 | exact hk_.1.1.1.1.2 | exact hk_.1.2.2.2.1 | exact hk_.1.2.2.2.2 | exact hk_))); have n7_ := Aside0.mk (hb); clear BK166; clear HO170; clear HO173; clear HO177; clear BK178; clear HO181; clear HO186; clear HB; have BK166 := n0_; have HO170 := n1_; have HO173 := n2_; have HO177 := n3_; have BK178 := n4_; have HO181 := n5_; have HO186 := n6_; have HB := n7_; clear n0_ n1_ n2_ n3_ n4_ n5_ n6_ n7_; (try clear hb); (try clear hkp); (try clear hy0)) | (go_at_call 42; (with_reducible refine (laws_eqStringS.calls k _ _ t179 _ _ t171 true _ ?side1 ?side2 ?side3 ?side4 A19.out).mono ?_); (case side1 => repeat (first | exact (Kd.R_reads' HO181.out).2.2 | (with_reducible refine Kd.C_alloc ?_ _) | (with_reducible refine Kd.C_drewN ?_ _) | (with_reducible refine Kd.C_drew ?_))); (case side2 => exact (Kd.R_reads' HO181.out).2.1); (case side3 => repeat (first | exact (Kd.R_reads' HO173.out).2.2 | (with_reducible refine Kd.C_alloc ?_ _) | (with_reducible refine Kd.C_drewN ?_ _) | (with_reducible refine Kd.C_drew ?_))); (case side4 => exact (Kd.R_reads' HO173.out).2.1); rintro e w' ⟨rfl, ⟨nd, rfl⟩⟩) | ((with_reducible refine gate_callee (f := 43) rfl ?_); refine goesL_ (some 64) rfl rfl Tryd.func43 (by kernel_rfl) rfl #[.slice Ao47 t179.length co47, .int .i64 1] rfl (by (try simp only [List.map_toArray, List.map_cons, List.map_nil]); first | done | rfl | (simp only [List.length_drop, List.length_take]; rfl)) ?_; (with_reducible refine (laws_markStringS.calls k (fun k_ => some k_ = (.slice Ao47 t179.length co47 : Value).ownBlock) (.slice Ao47 t179.length co47) t179 1 t191 t192 w _ ?side1 ?side2 A21.out).mono ?_); (case side1 => repeat (first | (with_reducible first | exact HB.out | apply below_alloc | apply pw_below_drewN | apply below_drew1 | refine below_set ?_ GE166.out | refine below_set ?_ GE178.out) | exact HB.out)); (case side2 => exact Kd.R_tight rfl HO181.out); rintro e w55 ⟨rfl, hy0, hb, hkp⟩; refine ⟨_, rfl, ?_⟩; have n0_ := Aside0.mk (blk_kept (by (with_reducible repeat (first | refine blk_drewN ?_ _ | refine blk_drew ?_ | refine blk_alloc ?_ _)); exact BK166.out) hkp (fun hs_ => (fun e_ => (Kd.R_ne HO181.out BK166.out (by decide)) e_) hs_)); have n1_ := Aside0.mk (Kd.R_mono (ok' := fun k_ => some k_ ≠ (.slice Ao48 t171.length co48 : Value).ownBlock ∧ some k_ ≠ (.slice Ao43 t175.length co43 : Value).ownBlock ∧ some k_ ≠ (.slice Ao47 t179.length co47 : Value).ownBlock ∧ some k_ ≠ (.slice Ao51 t184.length co51 : Value).ownBlock) (Kd.R_keptB (HO170.out) hkp (by intro k_ hk_ hs_; first | exact hk_.1.2 hs_ | exact hk_.2 hs_ | exact hk_.1.1 hs_ | exact hk_.1 hs_ | exact hk_.1.1.2 hs_ | exact hk_.1.2.1 hs_ | exact hk_.1.2.2 hs_ | exact hk_.2.1 hs_ | exact hk_.2.2 hs_ | exact hk_.1.1.1 hs_ | exact hk_.2.1.1 hs_ | exact hk_.2.1.2 hs_ | exact hk_.2.2.1 hs_ | exact hk_.2.2.2 hs_ | exact hk_.1.1.2.1 hs_ | exact hk_.1.1.1.2 hs_ | exact hk_.1.1.1.1 hs_ | exact hk_.1.1.2.2 hs_ | exact hk_.1.2.2.1 hs_ | exact hk_.1.2.2.2 hs_ | exact hk_.1.1.1.1.2 hs_ | exact hk_.1.2.2.2.1 hs_ | exact hk_.1.2.2.2.2 hs_ | exact hk_ hs_)) (by intro k_ hk_; (repeat' refine And.intro ?_ ?_) <;> (first | exact hk_.1.2 | exact hk_.2 | exact hk_.1.1 | exact hk_.1 | exact hk_.1.1.2 | exact hk_.1.2.1 | exact hk_.1.2.2 | exact hk_.2.1 | exact hk_.2.2 | exact hk_.1.1.1 | exact hk_.2.1.1 | exact hk_.2.1.2 | exact hk_.2.2.1 | exact hk_.2.2.2 | exact hk_.1.1.2.1 | exact hk_.1.1.1.2 | exact hk_.1.1.1.1 | exact hk_.1.1.2.2 | exact hk_.1.2.2.1 | exact hk_.1.2.2.2 | exact hk_.1.1.1.1.2 | exact hk_.1.2.2.2.1 | exact hk_.1.2.2.2.2 | exact hk_))); have n2_ := Aside0.mk (Kd.R_mono (ok' := fun k_ => some k_ ≠ (.slice Ao38 t168.length co38 : Value).ownBlock ∧ some k_ ≠ (.slice Ao43 t175.length co43 : Value).ownBlock ∧ some k_ ≠ (.slice Ao47 t179.length co47 : Value).ownBlock ∧ some k_ ≠ (.slice Ao51 t184.length co51 : Value).ownBlock) (Kd.R_keptB (HO173.out) hkp (by intro k_ hk_ hs_; first | exact hk_.1.2 hs_ | exact hk_.2 hs_ | exact hk_.1.1 hs_ | exact hk_.1 hs_ | exact hk_.1.1.2 hs_ | exact hk_.1.2.1 hs_ | exact hk_.1.2.2 hs_ | exact hk_.2.1 hs_ | exact hk_.2.2 hs_ | exact hk_.1.1.1 hs_ | exact hk_.2.1.1 hs_ | exact hk_.2.1.2 hs_ | exact hk_.2.2.1 hs_ | exact hk_.2.2.2 hs_ | exact hk_.1.1.2.1 hs_ | exact hk_.1.1.1.2 hs_ | exact hk_.1.1.1.1 hs_ | exact hk_.1.1.2.2 hs_ | exact hk_.1.2.2.1 hs_ | exact hk_.1.2.2.2 hs_ | exact hk_.1.1.1.1.2 hs_ | exact hk_.1.2.2.2.1 hs_ | exact hk_.1.2.2.2.2 hs_ | exact hk_ hs_)) (by intro k_ hk_; (repeat' refine And.intro ?_ ?_) <;> (first | exact hk_.1.2 | exact hk_.2 | exact hk_.1.1 | exact hk_.1 | exact hk_.1.1.2 | exact hk_.1.2.1 | exact hk_.1.2.2 | exact hk_.2.1 | exact hk_.2.2 | exact hk_.1.1.1 | exact hk_.2.1.1 | exact hk_.2.1.2 | exact hk_.2.2.1 | exact hk_.2.2.2 | exact hk_.1.1.2.1 | exact hk_.1.1.1.2 | exact hk_.1.1.1.1 | exact hk_.1.1.2.2 | exact hk_.1.2.2.1 | exact hk_.1.2.2.2 | exact hk_.1.1.1.1.2 | exact hk_.1.2.2.2.1 | exact hk_.1.2.2.2.2 | exact hk_))); have n3_ := Aside0.mk (Kd.R_mono (ok' := fun k_ => some k_ ≠ (.slice Ao38 t168.length co38 : Value).ownBlock ∧ some k_ ≠ (.slice Ao48 t171.length co48 : Value).ownBlock ∧ some k_ ≠ (.slice Ao47 t179.length co47 : Value).ownBlock ∧ some k_ ≠ (.slice Ao51 t184.length co51 : Value).ownBlock) (Kd.R_keptB (HO177.out) hkp (by intro k_ hk_ hs_; first | exact hk_.1.2 hs_ | exact hk_.2 hs_ | exact hk_.1.1 hs_ | exact hk_.1 hs_ | exact hk_.1.1.2 hs_ | exact hk_.1.2.1 hs_ | exact hk_.1.2.2 hs_ | exact hk_.2.1 hs_ | exact hk_.2.2 hs_ | exact hk_.1.1.1 hs_ | exact hk_.2.1.1 hs_ | exact hk_.2.1.2 hs_ | exact hk_.2.2.1 hs_ | exact hk_.2.2.2 hs_ | exact hk_.1.1.2.1 hs_ | exact hk_.1.1.1.2 hs_ | exact hk_.1.1.1.1 hs_ | exact hk_.1.1.2.2 hs_ | exact hk_.1.2.2.1 hs_ | exact hk_.1.2.2.2 hs_ | exact hk_.1.1.1.1.2 hs_ | exact hk_.1.2.2.2.1 hs_ | exact hk_.1.2.2.2.2 hs_ | exact hk_ hs_)) (by intro k_ hk_; (repeat' refine And.intro ?_ ?_) <;> (first | exact hk_.1.2 | exact hk_.2 | exact hk_.1.1 | exact hk_.1 | exact hk_.1.1.2 | exact hk_.1.2.1 | exact hk_.1.2.2 | exact hk_.2.1 | exact hk_.2.2 | exact hk_.1.1.1 | exact hk_.2.1.1 | exact hk_.2.1.2 | exact hk_.2.2.1 | exact hk_.2.2.2 | exact hk_.1.1.2.1 | exact hk_.1.1.1.2 | exact hk_.1.1.1.1 | exact hk_.1.1.2.2 | exact hk_.1.2.2.1 | exact hk_.1.2.2.2 | exact hk_.1.1.1.1.2 | exact hk_.1.2.2.2.1 | exact hk_.1.2.2.2.2 | exact hk_))); have n4_ := Aside0.mk (blk_kept (by (with_reducible repeat (first | refine blk_drewN ?_ _ | refine blk_drew ?_ | refine blk_alloc ?_ _)); exact BK178.out) hkp (fun hs_ => (fun e_ => (Kd.R_ne HO181.out BK178.out (by decide)) e_) hs_)); have n5_ := Aside0.mk (Kd.R_reok rfl hy0 (fun k_ e_ => HO181.out.1 k_ e_)); have n6_ := Aside0.mk (Kd.R_mono (ok' := fun k_ => some k_ ≠ (.slice Ao38 t168.length co38 : Value).ownBlock ∧ some k_ ≠ (.slice Ao48 t171.length co48 : Value).ownBlock ∧ some k_ ≠ (.slice Ao43 t175.length co43 : Value).ownBlock ∧ some k_ ≠ (.slice Ao47 t179.length co47 : Value).ownBlock) (Kd.R_keptB (HO186.out) hkp (by intro k_ hk_ hs_; first | exact hk_.1.2 hs_ | exact hk_.2 hs_ | exact hk_.1.1 hs_ | exact hk_.1 hs_ | exact hk_.1.1.2 hs_ | exact hk_.1.2.1 hs_ | exact hk_.1.2.2 hs_ | exact hk_.2.1 hs_ | exact hk_.2.2 hs_ | exact hk_.1.1.1 hs_ | exact hk_.2.1.1 hs_ | exact hk_.2.1.2 hs_ | exact hk_.2.2.1 hs_ | exact hk_.2.2.2 hs_ | exact hk_.1.1.2.1 hs_ | exact hk_.1.1.1.2 hs_ | exact hk_.1.1.1.1 hs_ | exact hk_.1.1.2.2 hs_ | exact hk_.1.2.2.1 hs_ | exact hk_.1.2.2.2 hs_ | exact hk_.1.1.1.1.2 hs_ | exact hk_.1.2.2.2.1 hs_ | exact hk_.1.2.2.2.2 hs_ | exact hk_ hs_)) (by intro k_ hk_; (repeat' refine And.intro ?_ ?_) <;> (first | exact hk_.1.2 | exact hk_.2 | exact hk_.1.1 | exact hk_.1 | exact hk_.1.1.2 | exact hk_.1.2.1 | exact hk_.1.2.2 | exact hk_.2.1 | exact hk_.2.2 | exact hk_.1.1.1 | exact hk_.2.1.1 | exact hk_.2.1.2 | exact hk_.2.2.1 | exact hk_.2.2.2 | exact hk_.1.1.2.1 | exact hk_.1.1.1.2 | exact hk_.1.1.1.1 | exact hk_.1.1.2.2 | exact hk_.1.2.2.1 | exact hk_.1.2.2.2 | exact hk_.1.1.1.1.2 | exact hk_.1.2.2.2.1 | exact hk_.1.2.2.2.2 | exact hk_))); have n7_ := Aside0.mk (hb); clear BK166; clear HO170; clear HO173; clear HO177; clear BK178; clear HO181; clear HO186; clear HB; have BK166 := n0_; have HO170 := n1_; have HO173 := n2_; have HO177 := n3_; have BK178 := n4_; have HO181 := n5_; have HO186 := n6_; have HB := n7_; clear n0_ n1_ n2_ n3_ n4_ n5_ n6_ n7_; (try clear hb); (try clear hkp); (try clear hy0)) | ((with_reducible refine gate_callee (f := 44) rfl ?_); refine goesL_ (some 67) rfl rfl Tryd.func44 (by kernel_rfl) rfl #[.slice Ao47 t192.length co47, .int .i64 1] rfl (by (try simp only [List.map_toArray, List.map_cons, List.map_nil]); first | done | (rw [show t192.length = t179.length from (Kd.R_reads' HO181.out).1.symm] <;> rfl) | rfl | (simp only [List.length_drop, List.length_take]; rfl)) ?_; (with_reducible refine (laws_heldStringS.calls k _ _ t192 1 t193 _ ?side1 ?side2 A22.out).mono ?_); (case side1 => repeat (first | exact (Kd.R_reads' HO181.out).2.2 | (with_reducible refine Kd.C_alloc ?_ _) | (with_reducible refine Kd.C_drewN ?_ _) | (with_reducible refine Kd.C_drew ?_))); (case side2 => rw [show t192.length = t179.length from (Kd.R_reads' HO181.out).1.symm]; exact (Kd.R_reads' HO181.out).2.1); rintro e w56 ⟨rfl, hb⟩; refine ⟨_, rfl, ?_⟩; have n0_ := Aside0.mk (Kd.R_below (by (with_reducible repeat (first | apply Kd.R_alloc | apply Kd.R_drewN | apply Kd.R_drew)); exact HO170.out) hb); have n1_ := Aside0.mk (Kd.R_below (by (with_reducible repeat (first | apply Kd.R_alloc | apply Kd.R_drewN | apply Kd.R_drew)); exact HO173.out) hb); have n2_ := Aside0.mk (Kd.R_below (by (with_reducible repeat (first | apply Kd.R_alloc | apply Kd.R_drewN | apply Kd.R_drew)); exact HO177.out) hb); have n3_ := Aside0.mk (Kd.R_below (by (with_reducible repeat (first | apply Kd.R_alloc | apply Kd.R_drewN | apply Kd.R_drew)); exact HO181.out) hb); have n4_ := Aside0.mk (Kd.R_below (by (with_reducible repeat (first | apply Kd.R_alloc | apply Kd.R_drewN | apply Kd.R_drew)); exact HO186.out) hb); have n5_ := Aside0.mk (blk_below (g := gb166) (o := .cells #[.slice A0_0 l0_0.length c0_0] 32 (0, 0)) (by (with_reducible repeat (first | refine blk_drewN ?_ _ | refine blk_drew ?_ | refine blk_alloc ?_ _)); exact BK166.out) hb); have n6_ := Aside0.mk (blk_below (g := gb178) (o := .cells #[.slice Ao43 t175.length co43] 37 (0, 0)) (by (with_reducible repeat (first | refine blk_drewN ?_ _ | refine blk_drew ?_ | refine blk_alloc ?_ _)); exact BK178.out) hb); have n7_ := Aside0.mk (below_step (by repeat (first | (with_reducible first | exact HB.out | apply below_alloc | apply pw_below_drewN | apply below_drew1 | refine below_set ?_ GE166.out | refine below_set ?_ GE178.out) | exact HB.out)) hb); clear HO170; clear HO173; clear HO177; clear HO181; clear HO186; clear BK166; clear BK178; clear HB; have HO170 := n0_; have HO173 := n1_; have HO177 := n2_; have HO181 := n3_; have HO186 := n4_; have BK166 := n5_; have BK178 := n6_; have HB := n7_; clear n0_ n1_ n2_ n3_ n4_ n5_ n6_ n7_; (try clear hb); (try clear hb2); (try clear hk); (try clear hi); have hcz57_0 : w56.cell? ⟨gb166, 0, none⟩ = some (.slice A0_0 l0_0.length c0_0) := (blk_cell BK166.out 0).trans rfl; have hfz57_0 := blk_frozen BK166.out 0) | ((with_reducible refine gate_callee (f := 22) rfl ?_); refine goesL_ (some 75) rfl rfl Tryd.func22 (by kernel_rfl) rfl #[.agg #[.slice A0_0 l0_0.length c0_0]] rfl (by (try simp only [List.map_toArray, List.map_cons, List.map_nil]); first | done | rfl | (simp only [List.length_drop, List.length_take]; rfl)) ?_; (with_reducible refine (laws_toLamps.calls k _ _ l0_0 t194 _ ?side1 ?side2 A25.out).mono ?_); (case side1 => repeat (first | exact (Kd.C_below HR0_0.out HB.out) | (with_reducible refine Kd.C_alloc ?_ _) | (with_reducible refine Kd.C_drewN ?_ _) | (with_reducible refine Kd.C_drew ?_))); (case side2 => exact HC0_0.out); rintro e w58 ⟨v195, rfl, ho0, hb⟩; refine ⟨_, rfl, ?_⟩; have n0_ := Aside0.mk (Kd.R_elder' (by (with_reducible repeat (first | apply Kd.R_alloc | apply Kd.R_drewN | apply Kd.R_drew)); exact HO170.out) (Kd.R_base ho0) hb); have n1_ := Aside0.mk (Kd.R_elder' (by (with_reducible repeat (first | apply Kd.R_alloc | apply Kd.R_drewN | apply Kd.R_drew)); exact HO173.out) (Kd.R_base ho0) hb); have n2_ := Aside0.mk (Kd.R_elder' (by (with_reducible repeat (first | apply Kd.R_alloc | apply Kd.R_drewN | apply Kd.R_drew)); exact HO177.out) (Kd.R_base ho0) hb); have n3_ := Aside0.mk (Kd.R_elder' (by (with_reducible repeat (first | apply Kd.R_alloc | apply Kd.R_drewN | apply Kd.R_drew)); exact HO181.out) (Kd.R_base ho0) hb); have n4_ := Aside0.mk (Kd.R_elder' (by (with_reducible repeat (first | apply Kd.R_alloc | apply Kd.R_drewN | apply Kd.R_drew)); exact HO186.out) (Kd.R_base ho0) hb); have n5_ := Aside0.mk (Kd.R_lower (Kd.R_new' (Kd.R_new' (Kd.R_new' (Kd.R_new' (Kd.R_new' ho0 (Kd.R_lt (by (with_reducible repeat (first | apply Kd.R_alloc | apply Kd.R_drewN | apply Kd.R_drew)); exact HO170.out))) (Kd.R_lt (by (with_reducible repeat (first | apply Kd.R_alloc | apply Kd.R_drewN | apply Kd.R_drew)); exact HO173.out))) (Kd.R_lt (by (with_reducible repeat (first | apply Kd.R_alloc | apply Kd.R_drewN | apply Kd.R_drew)); exact HO177.out))) (Kd.R_lt (by (with_reducible repeat (first | apply Kd.R_alloc | apply Kd.R_drewN | apply Kd.R_drew)); exact HO181.out))) (Kd.R_lt (by (with_reducible repeat (first | apply Kd.R_alloc | apply Kd.R_drewN | apply Kd.R_drew)); exact HO186.out))) (below_size (by repeat (first | (with_reducible first | exact HB.out | apply below_alloc | apply pw_below_drewN | apply below_drew1 | refine below_set ?_ GE166.out | refine below_set ?_ GE178.out) | exact HB.out)))); have n6_ := Aside0.mk (blk_below (g := gb166) (o := .cells #[.slice A0_0 l0_0.length c0_0] 32 (0, 0)) (by (with_reducible repeat (first | refine blk_drewN ?_ _ | refine blk_drew ?_ | refine blk_alloc ?_ _)); exact BK166.out) hb); have n7_ := Aside0.mk (blk_below (g := gb178) (o := .cells #[.slice Ao43 t175.length co43] 37 (0, 0)) (by (with_reducible repeat (first | refine blk_drewN ?_ _ | refine blk_drew ?_ | refine blk_alloc ?_ _)); exact BK178.out) hb); have n8_ := Aside0.mk (below_step (by repeat (first | (with_reducible first | exact HB.out | apply below_alloc | apply pw_below_drewN | apply below_drew1 | refine below_set ?_ GE166.out | refine below_set ?_ GE178.out) | exact HB.out)) hb); clear HO170; clear HO173; clear HO177; clear HO181; clear HO186; clear BK166; clear BK178; clear HB; have HO170 := n0_; have HO173 := n1_; have HO177 := n2_; have HO181 := n3_; have HO186 := n4_; have HO196 := n5_; have BK166 := n6_; have BK178 := n7_; have HB := n8_; clear n0_ n1_ n2_ n3_ n4_ n5_ n6_ n7_ n8_; (try clear hb); (try clear hb2); (try clear hk); (try clear hi); (try clear ho0); obtain ⟨Ao59, co59, eo59⟩ := Kd.R_slice HO196.out; subst eo59) | ((with_reducible refine gate_callee (f := 41) rfl ?_); refine goesL_ (some 76) rfl rfl Tryd.func41 (by kernel_rfl) rfl #[.agg #[.slice Ao59 t194.length co59]] rfl (by (try simp only [List.map_toArray, List.map_cons, List.map_nil]); first | done | rfl | (simp only [List.length_drop, List.length_take]; rfl)) ?_; (with_reducible refine (impl_StillStates.calls _ _ t194 t197 t200 _ ?side1 ?side2 A26.out).mono ?_); (case side1 => repeat (first | exact (Kd.R_reads' HO196.out).2.2 | (with_reducible refine Kd.C_alloc ?_ _) | (with_reducible refine Kd.C_drewN ?_ _) | (with_reducible refine Kd.C_drew ?_))); (case side2 => exact (Kd.R_reads' HO196.out).2.1); rintro e w60 ⟨v198, rfl, ho0, hb⟩; refine ⟨_, rfl, ?_⟩; have n0_ := Aside0.mk (Kd.R_elder' (by (with_reducible repeat (first | apply Kd.R_alloc | apply Kd.R_drewN | apply Kd.R_drew)); exact HO170.out) (Kd.R_base ho0) hb); have n1_ := Aside0.mk (Kd.R_elder' (by (with_reducible repeat (first | apply Kd.R_alloc | apply Kd.R_drewN | apply Kd.R_drew)); exact HO173.out) (Kd.R_base ho0) hb); have n2_ := Aside0.mk (Kd.R_elder' (by (with_reducible repeat (first | apply Kd.R_alloc | apply Kd.R_drewN | apply Kd.R_drew)); exact HO177.out) (Kd.R_base ho0) hb); have n3_ := Aside0.mk (Kd.R_elder' (by (with_reducible repeat (first | apply Kd.R_alloc | apply Kd.R_drewN | apply Kd.R_drew)); exact HO181.out) (Kd.R_base ho0) hb); have n4_ := Aside0.mk (Kd.R_elder' (by (with_reducible repeat (first | apply Kd.R_alloc | apply Kd.R_drewN | apply Kd.R_drew)); exact HO186.out) (Kd.R_base ho0) hb); have n5_ := Aside0.mk (Kd.R_elder' (by (with_reducible repeat (first | apply Kd.R_alloc | apply Kd.R_drewN | apply Kd.R_drew)); exact HO196.out) (Kd.R_base ho0) hb); have n6_ := Aside0.mk (Kd.R_lower (Kd.R_new' (Kd.R_new' (Kd.R_new' (Kd.R_new' (Kd.R_new' (Kd.R_new' ho0 (Kd.R_lt (by (with_reducible repeat (first | apply Kd.R_alloc | apply Kd.R_drewN | apply Kd.R_drew)); exact HO170.out))) (Kd.R_lt (by (with_reducible repeat (first | apply Kd.R_alloc | apply Kd.R_drewN | apply Kd.R_drew)); exact HO173.out))) (Kd.R_lt (by (with_reducible repeat (first | apply Kd.R_alloc | apply Kd.R_drewN | apply Kd.R_drew)); exact HO177.out))) (Kd.R_lt (by (with_reducible repeat (first | apply Kd.R_alloc | apply Kd.R_drewN | apply Kd.R_drew)); exact HO181.out))) (Kd.R_lt (by (with_reducible repeat (first | apply Kd.R_alloc | apply Kd.R_drewN | apply Kd.R_drew)); exact HO186.out))) (Kd.R_lt (by (with_reducible repeat (first | apply Kd.R_alloc | apply Kd.R_drewN | apply Kd.R_drew)); exact HO196.out))) (below_size (by repeat (first | (with_reducible first | exact HB.out | apply below_alloc | apply pw_below_drewN | apply below_drew1 | refine below_set ?_ GE166.out | refine below_set ?_ GE178.out) | exact HB.out)))); have n7_ := Aside0.mk (blk_below (g := gb166) (o := .cells #[.slice A0_0 l0_0.length c0_0] 32 (0, 0)) (by (with_reducible repeat (first | refine blk_drewN ?_ _ | refine blk_drew ?_ | refine blk_alloc ?_ _)); exact BK166.out) hb); have n8_ := Aside0.mk (blk_below (g := gb178) (o := .cells #[.slice Ao43 t175.length co43] 37 (0, 0)) (by (with_reducible repeat (first | refine blk_drewN ?_ _ | refine blk_drew ?_ | refine blk_alloc ?_ _)); exact BK178.out) hb); have n9_ := Aside0.mk (below_step (by repeat (first | (with_reducible first | exact HB.out | apply below_alloc | apply pw_below_drewN | apply below_drew1 | refine below_set ?_ GE166.out | refine below_set ?_ GE178.out) | exact HB.out)) hb); clear HO170; clear HO173; clear HO177; clear HO181; clear HO186; clear HO196; clear BK166; clear BK178; clear HB; have HO170 := n0_; have HO173 := n1_; have HO177 := n2_; have HO181 := n3_; have HO186 := n4_; have HO196 := n5_; have HO199 := n6_; have BK166 := n7_; have BK178 := n8_; have HB := n9_; clear n0_ n1_ n2_ n3_ n4_ n5_ n6_ n7_ n8_ n9_; (try clear hb); (try clear hb2); (try clear hk); (try clear hi); (try clear ho0); obtain ⟨Ao61, co61, eo61⟩ := Kd.R_slice HO199.out; subst eo61) | ((with_reducible refine gate_callee (f := 42) rfl ?_); refine goesL_ (some 81) rfl rfl Tryd.func42 (by kernel_rfl) rfl #[.slice Ao61 t197.length co61, .slice Ao48 t171.length co48] rfl (by (try simp only [List.map_toArray, List.map_cons, List.map_nil]); first | done | rfl | (simp only [List.length_drop, List.length_take]; rfl)) ?_; (with_reducible refine (laws_eqStringS.calls k _ _ t197 _ _ t171 true _ ?side1 ?side2 ?side3 ?side4 A27.out).mono ?_); (case side1 => repeat (first | exact (Kd.R_reads' HO199.out).2.2 | (with_reducible refine Kd.C_alloc ?_ _) | (with_reducible refine Kd.C_drewN ?_ _) | (with_reducible refine Kd.C_drew ?_))); (case side2 => exact (Kd.R_reads' HO199.out).2.1); (case side3 => repeat (first | exact (Kd.R_reads' HO173.out).2.2 | (with_reducible refine Kd.C_alloc ?_ _) | (with_reducible refine Kd.C_drewN ?_ _) | (with_reducible refine Kd.C_drew ?_))); (case side4 => exact (Kd.R_reads' HO173.out).2.1); rintro e w' ⟨rfl, ⟨nd, rfl⟩⟩; refine ⟨_, rfl, ?_⟩) | ((with_reducible refine gate_callee (f := 44) rfl ?_); refine goesL_ (some 90) rfl rfl Tryd.func44 (by kernel_rfl) rfl #[.slice Ao47 t192.length co47, .int .i64 1] rfl (by (try simp only [List.map_toArray, List.map_cons, List.map_nil]); first | done | (rw [show t192.length = t179.length from (Kd.R_reads' HO181.out).1.symm] <;> rfl) | rfl | (simp only [List.length_drop, List.length_take]; rfl)) ?_; (with_reducible refine (laws_heldStringS.calls k _ _ t192 1 t202 _ ?side1 ?side2 A30.out).mono ?_); (case side1 => repeat (first | exact (Kd.R_reads' HO181.out).2.2 | (with_reducible refine Kd.C_alloc ?_ _) | (with_reducible refine Kd.C_drewN ?_ _) | (with_reducible refine Kd.C_drew ?_))); (case side2 => rw [show t192.length = t179.length from (Kd.R_reads' HO181.out).1.symm]; exact (Kd.R_reads' HO181.out).2.1); rintro e w62 ⟨rfl, hb⟩; refine ⟨_, rfl, ?_⟩; have n0_ := Aside0.mk (Kd.R_below (by (with_reducible repeat (first | apply Kd.R_alloc | apply Kd.R_drewN | apply Kd.R_drew)); exact HO170.out) hb); have n1_ := Aside0.mk (Kd.R_below (by (with_reducible repeat (first | apply Kd.R_alloc | apply Kd.R_drewN | apply Kd.R_drew)); exact HO173.out) hb); have n2_ := Aside0.mk (Kd.R_below (by (with_reducible repeat (first | apply Kd.R_alloc | apply Kd.R_drewN | apply Kd.R_drew)); exact HO177.out) hb); have n3_ := Aside0.mk (Kd.R_below (by (with_reducible repeat (first | apply Kd.R_alloc | apply Kd.R_drewN | apply Kd.R_drew)); exact HO181.out) hb); have n4_ := Aside0.mk (Kd.R_below (by (with_reducible repeat (first | apply Kd.R_alloc | apply Kd.R_drewN | apply Kd.R_drew)); exact HO186.out) hb); have n5_ := Aside0.mk (Kd.R_below (by (with_reducible repeat (first | apply Kd.R_alloc | apply Kd.R_drewN | apply Kd.R_drew)); exact HO196.out) hb); have n6_ := Aside0.mk (Kd.R_below (by (with_reducible repeat (first | apply Kd.R_alloc | apply Kd.R_drewN | apply Kd.R_drew)); exact HO199.out) hb); have n7_ := Aside0.mk (blk_below (g := gb166) (o := .cells #[.slice A0_0 l0_0.length c0_0] 32 (0, 0)) (by (with_reducible repeat (first | refine blk_drewN ?_ _ | refine blk_drew ?_ | refine blk_alloc ?_ _)); exact BK166.out) hb); have n8_ := Aside0.mk (blk_below (g := gb178) (o := .cells #[.slice Ao43 t175.length co43] 37 (0, 0)) (by (with_reducible repeat (first | refine blk_drewN ?_ _ | refine blk_drew ?_ | refine blk_alloc ?_ _)); exact BK178.out) hb); have n9_ := Aside0.mk (below_step (by repeat (first | (with_reducible first | exact HB.out | apply below_alloc | apply pw_below_drewN | apply below_drew1 | refine below_set ?_ GE166.out | refine below_set ?_ GE178.out) | exact HB.out)) hb); clear HO170; clear HO173; clear HO177; clear HO181; clear HO186; clear HO196; clear HO199; clear BK166; clear BK178; clear HB; have HO170 := n0_; have HO173 := n1_; have HO177 := n2_; have HO181 := n3_; have HO186 := n4_; have HO196 := n5_; have HO199 := n6_; have BK166 := n7_; have BK178 := n8_; have HB := n9_; clear n0_ n1_ n2_ n3_ n4_ n5_ n6_ n7_ n8_ n9_; (try clear hb); (try clear hb2); (try clear hk); (try clear hi)))
             go_ret
             exact ⟨by first | rfl | (simp [errW_none, errW_some] <;> rfl) | (simp [*, errW_none, errW_some] <;> rfl), by repeat (first | (with_reducible first | exact HB.out | apply below_alloc | apply pw_below_drewN | apply below_drew1 | refine below_set ?_ GE166.out | refine below_set ?_ GE178.out) | exact HB.out)⟩
            ·rw [if_neg c32] at H
             exact absurd H (by simp)
         ·replace c28 := Bool.eq_false_iff.mpr c28
          subst c28
          have H1 : (none) = some r := by rw [if_neg (show ¬ (false = true) by decide)] at H; exact H
          clear H
          have H := H1
          clear H1
          exact absurd H (by simp)
        ·rw [if_neg c24] at H
         exact absurd H (by simp)
      ·replace c20 := Bool.eq_false_iff.mpr c20
       subst c20
       have H1 : (none) = some r := by rw [if_neg (show ¬ (false = true) by decide)] at H; exact H
       clear H
       have H := H1
       clear H1
       exact absurd H (by simp)
    ·replace c16 := Bool.eq_false_iff.mpr c16
     subst c16
     have H1 : (none) = some r := by rw [if_neg (show ¬ (false = true) by decide)] at H; exact H
     clear H
     have H := H1
     clear H1
     exact absurd H (by simp)
  ·replace c12 := Bool.eq_false_iff.mpr c12
   subst c12
   have H1 : (none) = some r := by rw [if_neg (show ¬ (false = true) by decide)] at H; exact H
   clear H
   have H := H1
   clear H1
   exact absurd H (by simp)

end Go.Proofs.YtepaleeepbjkbaaDoor.PStillStates
