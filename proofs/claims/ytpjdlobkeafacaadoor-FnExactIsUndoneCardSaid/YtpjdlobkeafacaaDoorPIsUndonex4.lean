-- PRINTED by drive.py (a program of this session's, over the kit's print.py; wip/tools/drive.py). Lean checks it.
import Derived.Test.YtpjdlobkeafacaaDoorPIsUndonex0
import Derived.Test.YtpjdlobkeafacaaDoorPIsUndonex1
import Derived.Test.YtpjdlobkeafacaaDoorPIsUndonex3
namespace Go.Proofs.YtpjdlobkeafacaaDoor.PIsUndone
open Go.RowKit Go.Proofs.YtpjdlobkeafacaaDoorW.PrintWords Go.Proofs.YtpjdlobkeafacaaDoorW.PrintLast Go.Proofs.YtpjdlobkeafacaaDoorW.PrintMore
attribute [local go_sem] max2_int min2_int max_two min_two max_three min_three max_four min_four   -- for this text's walks alone
set_option linter.unusedVariables false
set_option linter.unusedSimpArgs false

/-! ### impl_AreLamps: function 50 -/
-- by hand (wip/ext/AreLamps.tpl)
theorem isNeed_eq (s : ByteArray) (n : Nat) (hn : n ≤ 9223372036854775807) : impl_isNeed.f s n = some (needB n s) := by
  simp only [impl_isNeed.f, needB]
  by_cases h : s.size = n
  · subst h
    have ht : strings_Trim.f s (⟨#[48, 49, 63]⟩ : ByteArray) = some ⟨(Lib.trimS s.data.toList [48, 49, 63]).toArray⟩ := by
      unfold strings_Trim.f
      rw [if_pos ⟨hn, by decide, by decide⟩]
    rw [if_pos rfl, ht]
    simp only [Option.bind_some, trimS_beq, isSign_contains]
    simp
  · have h' : ¬ (s.size : Int) = n := by omega
    simp [h, h']
theorem impl_AreLamps.f1 : Tryd.prog.funcs[87]? = some Tryd.f87 ∧ (Tryd.f87.name == "runtime.NumGoroutine") = false ∧ Tryd.f87.body.isSome = true := ⟨Tryd.func87, by kernel_rfl, by kernel_rfl⟩
set_option maxHeartbeats 400000 in
theorem impl_AreLamps.c1 (g : Nat) (A : Option Addr) (n c : Nat) (s : ByteArray) (w : World) (hn : n ≤ 9223372036854775807) (hg : w.cell? ⟨g, 0, none⟩ = some (.slice A n c)) :
    Calls Tryd.prog 87 #[.string s, .pointer (some ⟨g, 0, none⟩)] w fun e w' => e = .returned (.bool (!needB n s)) ∧ Below w.heap.size w w' := by
  have HC := Aside0.mk (fun W => impl_isNeed.calls s n _ W (isNeed_eq s n hn))
  have hu := Tryd.underlying40
  go_enter Tryd.func87, Tryd.ntmps87
  go_wp2_with (go_at_call 88; refine (HC.out _).mono ?_; rintro e w' ⟨rfl, hb⟩; have HB := Aside0.mk hb; clear hb)
  go_ret
  exact ⟨rfl, HB.out⟩
def impl_AreLamps.f (l0_0 : List ByteArray) : Option Bool := some (areLampsB l0_0)
set_option maxHeartbeats 1000000 in
set_option maxRecDepth 100000 in
theorem impl_AreLamps.calls (A0_0 : Option Addr) (c0_0 : Nat) (l0_0 : List ByteArray) (r : Bool) (w : World) (hr0_0 : Kd.C Kd.string w A0_0 l0_0.length l0_0) (hc0_0 : l0_0.length ≤ c0_0) (h : impl_AreLamps.f l0_0 = some r) :
    Calls Tryd.prog 50 #[.agg #[.slice A0_0 l0_0.length c0_0]] w fun e w' => e = .returned (.bool r) ∧ Below w.heap.size w w' := by
  obtain rfl := Option.some.inj h
  clear h
  have hl := hr0_0.2.1
  have HC := Aside0.mk (fun (W : World) (hb : Below w.heap.size w W) (hg : W.cell? ⟨w.heap.size, 0, none⟩ = some (.slice A0_0 l0_0.length c0_0)) =>
    slices_ContainsFunc_string_string.any 87 Tryd.f87 impl_AreLamps.f1 #[.pointer (some ⟨w.heap.size, 0, none⟩)] (fun s => !needB l0_0.length s) A0_0 c0_0 l0_0 W (Kd.C_below hr0_0 hb)
      (fun w1 x _ hb1 => impl_AreLamps.c1 w.heap.size A0_0 l0_0.length c0_0 x w1 hl ((hb1.cell (World.block_lt_of_cell? W _ hg)).trans hg)))
  have HI := Aside0.mk (fun w1 => impl_in.calls l0_0.length 1 10 _ w1 (inB_ite l0_0.length 1 10))
  have hmf : ∀ (fn : Fn) (first cap : Array Value) (w : World), (Instr.makeFunc fn first cap).run Tryd.prog w = .ok (.func fn first cap) w := fun _ _ _ _ => rfl
  have hu := Tryd.underlying40
  clear hr0_0
  obtain ⟨R, hR⟩ : ∃ R, R = areLampsB l0_0 := ⟨_, rfl⟩
  rw [← hR]
  unfold areLampsB at hR
  have hall : l0_0.all (needB l0_0.length) = !(l0_0.any fun s => !needB l0_0.length s) := by simp [List.all_eq_not_any_not]
  rw [hall] at hR
  clear hall
  have HX := Aside0.mk hR
  clear hR
  go_enter Tryd.func50, Tryd.ntmps50
  go_wp2_with (first
    | (go_at_call 85; refine (HI.out _).mono ?_; rintro e w' ⟨rfl, ⟨n, rfl⟩⟩)
    | (go_at_call 86; refine (HC.out _ (pw_below_drewN (below_alloc (Below.refl _ _) _) _) (by go_simp)).mono ?_; rintro e w' ⟨rfl, hb⟩; have HB := Aside0.mk hb; clear hb))
  all_goals go_ret
  · have h1 : inB l0_0.length 1 10 = true := by assumption
    exact ⟨ret_bool (by rw [HX.out, h1]; simp), below_step (pw_below_drewN (below_alloc (Below.refl _ _) _) _) HB.out⟩
  · have h1 : ¬ inB l0_0.length 1 10 = true := by assumption
    exact ⟨ret_bool (by rw [HX.out]; simp [h1]), pw_below_drewN (below_alloc (Below.refl _ _) _) _⟩

/-! ### impl_textStates: function 51 -/
mutual
def impl_textStates.l0 : Nat → List ByteArray → Int → Int → Option (List ByteArray)
 | 0, _, _, _ => none
 | k + 1, x3, x8, x9 => if x9 < x8 then (impl_textStates.l1 k ([] : List ByteArray) x8 x9 x3 (x3.length : Int) 0) else (some x3)
def impl_textStates.l1 : Nat → List ByteArray → Int → Int → List ByteArray → Int → Int → Option (List ByteArray)
 | 0, _, _, _, _, _, _ => none
 | k + 1, x4, x8, x9, x11, x12, x13 => if x13 < x12 then (if 0 ≤ x13 then (if x13 < (x11.length : Int) then (if (rdOf ByteArray.empty x11 x13).size + 1 ≤ 9223372036854775807 then ((some (([(rdOf ByteArray.empty x11 x13) ++ (⟨#[48]⟩ : ByteArray), (rdOf ByteArray.empty x11 x13) ++ (⟨#[49]⟩ : ByteArray)] : List ByteArray) : List ByteArray)).bind fun y146 => (if x4.length + y146.length < 8796093022208 then (impl_textStates.l1 k (x4 ++ y146) x8 x9 x11 x12 (wrap64 (x13 + 1))) else (none))) else (none)) else (none)) else (none)) else (impl_textStates.l0 k x4 x8 (wrap64 (x9 + 1)))
end
def impl_textStates.f (k : Nat) (a0 : Int) : Option (List ByteArray) := impl_textStates.l0 k (([(⟨#[]⟩ : ByteArray)] : List ByteArray)) a0 0
theorem impl_textStates.mono_l : ∀ k, (∀ y0 y1 y2, LeO (impl_textStates.l0 k y0 y1 y2) (impl_textStates.l0 (k + 1) y0 y1 y2)) ∧ (∀ y0 y1 y2 y3 y4 y5, LeO (impl_textStates.l1 k y0 y1 y2 y3 y4 y5) (impl_textStates.l1 (k + 1) y0 y1 y2 y3 y4 y5))
 | 0 => ⟨fun _ _ _ r h => by simp [impl_textStates.l0] at h, fun _ _ _ _ _ _ r h => by simp [impl_textStates.l1] at h⟩
 | k + 1 => by
  obtain ⟨ih0, ih1⟩ := impl_textStates.mono_l k
  refine ⟨?_, ?_⟩
  ·intro y0 y1 y2
   unfold impl_textStates.l0
   repeat' first
   | (with_reducible exact ih0 _ _ _)
   | (with_reducible exact ih1 _ _ _ _ _ _)
   | (with_reducible exact LeO.refl _)
   | (with_reducible exact LeO.none _)
   | (with_reducible refine LeO.ite ?_ ?_)
   | (with_reducible refine LeO.bind ?_ (fun _ => ?_))
   | exact ih0 _ _ _
   | exact ih1 _ _ _ _ _ _
   | exact LeO.none _
   | refine LeO.ite ?_ ?_
   | refine LeO.bind ?_ (fun _ => ?_)
  ·intro y0 y1 y2 y3 y4 y5
   unfold impl_textStates.l1
   repeat' first
   | (with_reducible exact ih0 _ _ _)
   | (with_reducible exact ih1 _ _ _ _ _ _)
   | (with_reducible exact LeO.refl _)
   | (with_reducible exact LeO.none _)
   | (with_reducible refine LeO.ite ?_ ?_)
   | (with_reducible refine LeO.bind ?_ (fun _ => ?_))
   | exact ih0 _ _ _
   | exact ih1 _ _ _ _ _ _
   | exact LeO.none _
   | refine LeO.ite ?_ ?_
   | refine LeO.bind ?_ (fun _ => ?_)
theorem impl_textStates.mono : ∀ a0 k, LeO (impl_textStates.f k a0) (impl_textStates.f (k + 1) a0) := by
 intro a0 k
 obtain ⟨ih0, ih1⟩ := impl_textStates.mono_l k
 unfold impl_textStates.f
 repeat' first
   | (with_reducible exact ih0 _ _ _)
   | (with_reducible exact ih1 _ _ _ _ _ _)
   | (with_reducible exact LeO.refl _)
   | (with_reducible exact LeO.none _)
   | (with_reducible refine LeO.ite ?_ ?_)
   | (with_reducible refine LeO.bind ?_ (fun _ => ?_))
   | exact ih0 _ _ _
   | exact ih1 _ _ _ _ _ _
   | exact LeO.none _
   | refine LeO.ite ?_ ?_
   | refine LeO.bind ?_ (fun _ => ?_)
set_option maxHeartbeats 8000000 in
set_option maxRecDepth 100000 in
theorem impl_textStates.calls (k : Nat) (a0 : Int) (r : List ByteArray) (w : World) (h : impl_textStates.f k a0 = some r) :
  Calls Tryd.prog 51 #[.int .i64 a0] w fun e w' => ∃ v0_ : Value, e = .returned (v0_) ∧ Kd.R Kd.string 9 w' w.heap.size (fun _ => True) v0_ r ∧ Below w.heap.size w w' := by
 have HB := Aside0.mk (Below.refl w.heap.size w)
 have H : (impl_textStates.l0 k (([(⟨#[]⟩ : ByteArray)] : List ByteArray)) a0 0) = some r := h
 clear h
 obtain ⟨y142, hy142⟩ : ∃ y_ : List ByteArray, y_ = (([(⟨#[]⟩ : ByteArray)] : List ByteArray)) := ⟨_, rfl⟩
 replace H : (impl_textStates.l0 k y142 a0 0) = some r := by first | (rw [hy142]; with_reducible exact H) | (have H2_ := (Option.bind_some _ _).symm.trans H; rw [hy142]; with_reducible exact H2_) | (have H2_ := (Option.bind_some _ _).symm.trans H; with_reducible exact H2_) | with_reducible exact H | (rw [hy142]; exact H) | exact H
 have Ny142 := Aside0.mk hy142
 clear hy142
 have H' := Aside0.mk H
 clear H
 go_enter Tryd.func51, Tryd.ntmps51
 go_wp2_with (first | ((with_reducible refine gate_dst (N := 7) rfl ?_); refine Kd.R_lit Kd.string _ 9 ?hg (N := 7) ?hd (xs := ([(⟨#[]⟩ : ByteArray)] : List ByteArray)) (inner := [.string (⟨#[]⟩ : ByteArray)]) (ok := fun _ => True) (okp := fun _ => True) ?hr ?hp (fun _ hk => hk) trivial (Below.refl _ _) (Nat.le_refl _) (by simp) ?_; (case hd => rfl); (case hg => rfl); (case hr => first | (go_simp; done) | (go_simp; rfl)); (case hp => exact (Reps.one (show Kd.M Kd.string _ _ _ (⟨#[]⟩ : ByteArray) [.string (⟨#[]⟩ : ByteArray)] from rfl) (Reps.none _ _))); intro v143 w2 ho3 hb hg_ hnew_; clear hg_ hnew_; (first | rw [← Ny142.out] at ho3 | (simp only [Int.reduceToNat] at ho3; rw [← Ny142.out] at ho3)); have n0_ := Aside0.mk (Kd.R_lower ho3 (below_size (by repeat (first | (with_reducible first | exact HB.out | apply below_alloc | apply pw_below_drewN | apply below_drew1) | exact HB.out)))); have n1_ := Aside0.mk (below_step (by repeat (first | (with_reducible first | exact HB.out | apply below_alloc | apply pw_below_drewN | apply below_drew1) | exact HB.out)) hb); clear HB; have HO144 := n0_; have HB := n1_; clear n0_ n1_; clear hb ho3))
 go_loopg [3, 9] k (fun kq v3 v9 w' => ∃ (x3_1 : List ByteArray) (x9_1 : Int), v9 = .int .i64 x9_1 ∧ Aside0 (impl_textStates.l0 kq x3_1 a0 x9_1 = some r) ∧ Aside0 (kq ≤ k) ∧ Aside0 (Kd.R Kd.string 9 w' w.heap.size (fun _ => True) v3 x3_1) ∧ Aside0 (Below w.heap.size w w'))
 case atStart => exact ⟨(y142), (0), (by first | rfl | (simp; done) | (simp [*]; done)), H', ⟨Nat.le_refl _⟩, ⟨by (with_reducible repeat (first | apply Kd.R_alloc | apply Kd.R_drewN | apply Kd.R_drew)); exact HO144.out⟩, ⟨by repeat (first | (with_reducible first | exact HB.out | apply below_alloc | apply pw_below_drewN | apply below_drew1) | exact HB.out)⟩⟩
 case round =>
  clear H'
  try clear p2
  obtain ⟨x3_1, x9_1, rfl, HA, HK1, HO_3, HB⟩ := hrel
  cases gk with
  | zero => exact absurd HA.out (by simp [impl_textStates.l0])
  | succ k1 =>
   have H := HA.out
   clear HA
   simp only [impl_textStates.l0] at H
   by_cases c4 : x9_1 < a0
   ·rw [if_pos c4] at H
    have c4b0 : decide (x9_1 < a0) = true := decide_eq_true c4
    clear c4
    have H' := Aside0.mk H
    clear H
    obtain ⟨Ao5, co5, eo5⟩ := Kd.R_slice HO_3.out
    subst eo5
    go_wp2
    go_loopg [4, 13] k1 (fun kq v4 v13 w' => ∃ (x4_2 : List ByteArray) (x13_2 : Int), v13 = .int .i64 x13_2 ∧ Aside0 (impl_textStates.l1 kq x4_2 a0 x9_1 x3_1 (x3_1.length : Int) x13_2 = some r) ∧ Aside0 (kq ≤ k1) ∧ Aside0 (Kd.R Kd.string 9 w' w.heap.size (fun k_ => some k_ ≠ ((.slice Ao5 x3_1.length co5) : Value).ownBlock) v4 x4_2) ∧ Aside0 (Kd.R Kd.string 9 w' w.heap.size (fun k_ => some k_ ≠ (v4 : Value).ownBlock) (.slice Ao5 x3_1.length co5) x3_1) ∧ Aside0 (Below w.heap.size w w'))
    case atStart => exact ⟨(([] : List ByteArray)), (0), (by first | rfl | (simp; done) | (simp [*]; done)), H', ⟨Nat.le_refl _⟩, ⟨by first | exact Kd.R_nil _ _ _ _ _ | exact Kd.N_nil _ _ _ _ _ | exact Kd.V_nil _ _ _ _ _ | exact Kd.Q_nil _ _ _ _ _ | exact Kd.S_nil _ _ _ _ _⟩, ⟨by (with_reducible repeat (first | apply Kd.R_alloc | apply Kd.R_drewN | apply Kd.R_drew)); exact Kd.R_mono HO_3.out (fun _ hk => (by simp [Value.ownBlock]))⟩, ⟨by repeat (first | (with_reducible first | exact HB.out | apply below_alloc | apply pw_below_drewN | apply below_drew1) | exact HB.out)⟩⟩
    case round =>
     clear H'
     try clear p2
     try clear c4
     try clear c4b0
     try clear c5
     try clear p2
     obtain ⟨x4_2, x13_2, rfl, HA, HK2, HO_4, HO_11, HB⟩ := hrel
     cases gk with
     | zero => exact absurd HA.out (by simp [impl_textStates.l1])
     | succ k2 =>
      have H := HA.out
      clear HA
      simp only [impl_textStates.l1] at H
      by_cases c6 : x13_2 < (x3_1.length : Int)
      ·rw [if_pos c6] at H
       have c6b0 : decide (x13_2 < (x3_1.length : Int)) = true := decide_eq_true c6
       clear c6
       by_cases c7 : 0 ≤ x13_2
       ·rw [if_pos c7] at H
        have c7b0 : decide (0 ≤ x13_2) = true := decide_eq_true c7
        clear c7
        by_cases c8 : x13_2 < (x3_1.length : Int)
        ·rw [if_pos c8] at H
         have c8b0 : decide (x13_2 < (x3_1.length : Int)) = true := decide_eq_true c8
         clear c8
         by_cases c9 : (rdOf ByteArray.empty x3_1 x13_2).size + 1 ≤ 9223372036854775807
         ·rw [if_pos c9] at H
          have c9b0 := eq_true c9
          have c9b1 : decide ((rdOf ByteArray.empty x3_1 x13_2).size + 1 ≤ 9223372036854775807) = true := decide_eq_true c9
          try have c9b2 : (9223372036854775807 < (rdOf ByteArray.empty x3_1 x13_2).size + 1) = False := eq_false (Nat.not_lt.2 c9)
          obtain ⟨y146, hy146⟩ : ∃ y_ : List ByteArray, y_ = (([(rdOf ByteArray.empty x3_1 x13_2) ++ (⟨#[48]⟩ : ByteArray), (rdOf ByteArray.empty x3_1 x13_2) ++ (⟨#[49]⟩ : ByteArray)] : List ByteArray)) := ⟨_, rfl⟩
          replace H : (if x4_2.length + y146.length < 8796093022208 then (impl_textStates.l1 k2 (x4_2 ++ y146) a0 x9_1 x3_1 (x3_1.length : Int) (wrap64 (x13_2 + 1))) else (none)) = some r := by first | (rw [hy146]; with_reducible exact H) | (have H2_ := (Option.bind_some _ _).symm.trans H; rw [hy146]; with_reducible exact H2_) | (have H2_ := (Option.bind_some _ _).symm.trans H; with_reducible exact H2_) | with_reducible exact H | (rw [hy146]; exact H) | exact H
          have Ny146 := Aside0.mk hy146
          clear hy146
          by_cases c10 : x4_2.length + y146.length < 8796093022208
          ·rw [if_pos c10] at H
           have LMc10 := Aside0.mk c10
           clear c10
           obtain ⟨y149, hy149⟩ : ∃ y_ : List ByteArray, y_ = (x4_2 ++ y146) := ⟨_, rfl⟩
           replace H : (impl_textStates.l1 k2 y149 a0 x9_1 x3_1 (x3_1.length : Int) (wrap64 (x13_2 + 1))) = some r := by first | (rw [hy149]; with_reducible exact H) | (have H2_ := (Option.bind_some _ _).symm.trans H; rw [hy149]; with_reducible exact H2_) | (have H2_ := (Option.bind_some _ _).symm.trans H; with_reducible exact H2_) | with_reducible exact H | (rw [hy149]; exact H) | exact H
           have Ny149 := Aside0.mk hy149
           clear hy149
           have H' := Aside0.mk H
           clear H
           have p145 : 0 ≤ (x13_2 : Int) := of_decide_eq_true (by first | (with_reducible assumption) | assumption)
           have q145 : x13_2 < (x3_1.length : Int) := of_decide_eq_true (by first | (with_reducible assumption) | assumption)
           obtain ⟨ad145, e145, hx145_0⟩ := Kd.at_string (Kd.R_reads' HO_11.out).2.2 x13_2 p145 q145
           cases e145
           replace p145 := eq_true p145
           replace q145 := eq_true q145
           go_wp2_with (first | ((with_reducible refine gate_dst (N := 22) rfl ?_); refine Kd.R_lit Kd.string _ 9 ?hg (N := 22) ?hd (xs := ([(rdOf ByteArray.empty x3_1 x13_2) ++ (⟨#[48]⟩ : ByteArray), (rdOf ByteArray.empty x3_1 x13_2) ++ (⟨#[49]⟩ : ByteArray)] : List ByteArray)) (inner := [.string ((rdOf ByteArray.empty x3_1 x13_2) ++ (⟨#[48]⟩ : ByteArray)), .string ((rdOf ByteArray.empty x3_1 x13_2) ++ (⟨#[49]⟩ : ByteArray))]) (ok := fun _ => True) (okp := fun _ => True) ?hr ?hp (fun _ hk => hk) trivial (Below.refl _ _) (Nat.le_refl _) (by simp) ?_; (case hd => rfl); (case hg => rfl); (case hr => first | (go_simp; done) | (go_simp; rfl)); (case hp => exact (Reps.one (show Kd.M Kd.string _ _ _ ((rdOf ByteArray.empty x3_1 x13_2) ++ (⟨#[48]⟩ : ByteArray)) [.string ((rdOf ByteArray.empty x3_1 x13_2) ++ (⟨#[48]⟩ : ByteArray))] from rfl) (Reps.one (show Kd.M Kd.string _ _ _ ((rdOf ByteArray.empty x3_1 x13_2) ++ (⟨#[49]⟩ : ByteArray)) [.string ((rdOf ByteArray.empty x3_1 x13_2) ++ (⟨#[49]⟩ : ByteArray))] from rfl) (Reps.none _ _)))); intro v147 w11 ho12 hb hg_ hnew_; clear hg_ hnew_; (first | rw [← Ny146.out] at ho12 | (simp only [Int.reduceToNat] at ho12; rw [← Ny146.out] at ho12)); have n0_ := Aside0.mk (Kd.R_elder' (by (with_reducible repeat (first | apply Kd.R_alloc | apply Kd.R_drewN | apply Kd.R_drew)); exact HO_4.out) (Kd.R_base ho12) hb); have n1_ := Aside0.mk (Kd.R_elder' (by (with_reducible repeat (first | apply Kd.R_alloc | apply Kd.R_drewN | apply Kd.R_drew)); exact HO_11.out) (Kd.R_base ho12) hb); have n2_ := Aside0.mk (Kd.R_lower (Kd.R_new' (Kd.R_new' ho12 (Kd.R_lt (by (with_reducible repeat (first | apply Kd.R_alloc | apply Kd.R_drewN | apply Kd.R_drew)); exact HO_4.out))) (Kd.R_lt (by (with_reducible repeat (first | apply Kd.R_alloc | apply Kd.R_drewN | apply Kd.R_drew)); exact HO_11.out))) (below_size (by repeat (first | (with_reducible first | exact HB.out | apply below_alloc | apply pw_below_drewN | apply below_drew1) | exact HB.out)))); have n3_ := Aside0.mk (below_step (by repeat (first | (with_reducible first | exact HB.out | apply below_alloc | apply pw_below_drewN | apply below_drew1) | exact HB.out)) hb); clear HO_4; clear HO_11; clear HB; have HO_4 := n0_; have HO_11 := n1_; have HO148 := n2_; have HB := n3_; clear n0_ n1_ n2_ n3_; clear hb ho12; obtain ⟨Ao14, co14, eo14⟩ := Kd.R_slice HO148.out; subst eo14) | ((with_reducible refine gate_builtin (b := .append) (xs := #[.tmp 17, .tmp 22]) rfl ?_); at_builtin; refine Kd.R_append_rows Kd.string (w0 := w) w.heap.size rfl (.tmp 17) (.tmp 22) 34 9 (.string ⟨#[]⟩) 16 rfl Tryd.underlying34 info9 rfl (by decide) (by omega) u4 x4_2 y146 _ _ _ (fun k_ => some k_ ≠ (.slice (some ad145) x3_1.length co5 : Value).ownBlock ∧ some k_ ≠ (.slice Ao14 y146.length co14 : Value).ownBlock) (fun _ => False) rfl rfl ?aO ?aR (fun _ _ h => h) (fun _ h => h.elim) ?aF ?aB ?aS ?aL ?_; (case aR => repeat (first | exact (Kd.R_reads' HO148.out).2.2 | (with_reducible refine Kd.C_alloc ?_ _) | (with_reducible refine Kd.C_drewN ?_ _) | (with_reducible refine Kd.C_drew ?_))); (case aB => exact (by repeat (first | (with_reducible first | exact HB.out | apply below_alloc | apply pw_below_drewN | apply below_drew1) | exact HB.out))); (case aF => exact (fun k_ hk => ⟨Kd.fresh' (Kd.R_lt (by (with_reducible repeat (first | apply Kd.R_alloc | apply Kd.R_drewN | apply Kd.R_drew)); exact HO_11.out)) k_ hk, Kd.fresh' (Kd.R_lt (by (with_reducible repeat (first | apply Kd.R_alloc | apply Kd.R_drewN | apply Kd.R_drew)); exact HO148.out)) k_ hk⟩)); (case aO => exact (by (with_reducible repeat (first | apply Kd.R_alloc | apply Kd.R_drewN | apply Kd.R_drew)); exact HO_4.out)); (case aS => exact (below_size (by repeat (first | (with_reducible first | exact HB.out | apply below_alloc | apply pw_below_drewN | apply below_drew1) | exact HB.out)))); (case aL => have := LMc10.out; omega); intro v150 w13 ho hb hg hat; rw [← Ny149.out] at ho; have n0_ := Aside0.mk (Kd.R_after (ok := (fun k_ => some k_ ≠ (.slice Ao14 y146.length co14 : Value).ownBlock)) (by (with_reducible repeat (first | apply Kd.R_alloc | apply Kd.R_drewN | apply Kd.R_drew)); exact Kd.R_mono HO_11.out (fun _ hk => ⟨hk.2, hk.1⟩)) hg hat); have n1_ := Aside0.mk (Kd.R_after (ok := (fun k_ => some k_ ≠ (.slice (some ad145) x3_1.length co5 : Value).ownBlock)) (by (with_reducible repeat (first | apply Kd.R_alloc | apply Kd.R_drewN | apply Kd.R_drew)); exact Kd.R_mono HO148.out (fun _ hk => ⟨hk.2, hk.1.2⟩)) hg hat); have n2_ := Aside0.mk (hb); have n3_ := Aside0.mk (ho); clear HO_11; clear HO148; clear HB; clear HO_4; have HO_11 := n0_; have HO148 := n1_; have HB := n2_; have HO151 := n3_; clear n0_ n1_ n2_ n3_; clear ho hb hg hat))
           go_roundg k2
           case measure => have := HK1.out; have := HK2.out; omega
           case rel => exact ⟨(y149), (wrap64 (x13_2 + 1)), (by first | rfl | (simp; done) | (simp [*]; done)), H', ⟨by have := HK1.out; have := HK2.out; omega⟩, ⟨by (with_reducible repeat (first | apply Kd.R_alloc | apply Kd.R_drewN | apply Kd.R_drew)); exact Kd.R_mono HO151.out (fun _ hk => hk.1)⟩, ⟨by (with_reducible repeat (first | apply Kd.R_alloc | apply Kd.R_drewN | apply Kd.R_drew)); exact Kd.R_mono HO_11.out (fun _ hk => hk.2)⟩, ⟨by repeat (first | (with_reducible first | exact HB.out | apply below_alloc | apply pw_below_drewN | apply below_drew1) | exact HB.out)⟩⟩
          ·rw [if_neg c10] at H
           exact absurd H (by simp)
         ·rw [if_neg c9] at H
          exact absurd H (by simp)
        ·rw [if_neg c8] at H
         exact absurd H (by simp)
       ·rw [if_neg c7] at H
        exact absurd H (by simp)
      ·rw [if_neg c6] at H
       have c6b0 : decide (x13_2 < (x3_1.length : Int)) = false := decide_eq_false c6
       clear c6
       have H' := Aside0.mk H
       clear H
       go_wp2
       go_roundg k2
       case measure => have := HK1.out; have := HK2.out; omega
       case rel => exact ⟨(x4_2), (wrap64 (x9_1 + 1)), (by first | rfl | (simp; done) | (simp [*]; done)), H', ⟨by have := HK1.out; have := HK2.out; omega⟩, ⟨by (with_reducible repeat (first | apply Kd.R_alloc | apply Kd.R_drewN | apply Kd.R_drew)); exact Kd.R_mono HO_4.out (fun _ hk => trivial)⟩, ⟨by repeat (first | (with_reducible first | exact HB.out | apply below_alloc | apply pw_below_drewN | apply below_drew1) | exact HB.out)⟩⟩
   ·rw [if_neg c4] at H
    have c4b0 : decide (x9_1 < a0) = false := decide_eq_false c4
    clear c4
    obtain rfl := Option.some.inj H
    go_wp2
    go_ret
    exact ⟨_, by first | rfl | (simp [errW_none, errW_some] <;> rfl) | (simp [*, errW_none, errW_some] <;> rfl), by (with_reducible repeat (first | apply Kd.R_alloc | apply Kd.R_drewN | apply Kd.R_drew)); exact HO_3.out, by repeat (first | (with_reducible first | exact HB.out | apply below_alloc | apply pw_below_drewN | apply below_drew1) | exact HB.out)⟩

/-! ### impl_Lamps_tick: function 52 -/
-- by hand (wip/ext/tick.tpl)
theorem implMeets_ev (nd s : ByteArray) (hz : nd.size ≤ s.size) (hm : s.size ≤ 1000) : Ev (fun k => impl_meets.f k nd s) (meetsL nd.data.toList s.data.toList) := by
  have hzn : nd.size = nd.data.toList.length := Lib.size_eq nd
  have hzs : s.size = s.data.toList.length := Lib.size_eq s
  have key : ∀ (d i : Nat), i + d = nd.size → (∀ j (hj : j < nd.data.toList.length) (hs : j < s.data.toList.length), j < i → nd.data.toList[j] = 63 ∨ nd.data.toList[j] = s.data.toList[j]) →
      Ev (fun k => impl_meets.l0 k nd s (nd.size : Int) (i : Int)) (meetsL nd.data.toList s.data.toList) := by
    intro d
    induction d with
    | zero =>
      intro i hi hp
      refine Ev.last fun k => ?_
      rw [impl_meets.l0, if_neg (by omega), meetsL_of _ _ (by omega) (fun j hj => hp j hj (by omega) (by omega))]
    | succ d ih =>
      intro i hi hp
      have h1 : i < nd.data.toList.length := by omega
      have h2 : i < s.data.toList.length := by omega
      have ew : wrap64 ((i : Int) + 1) = ((i + 1 : Nat) : Int) := by rw [w64 (by omega) (by omega)]; omega
      have e1 := bt_nat nd i h1
      have e2 := bt_nat s i h2
      have q63 : ((nd.data.toList[i].toNat : Int) = 63) = (nd.data.toList[i] = 63) := byte_toInt nd.data.toList[i] 63 (by omega)
      have qd : ((nd.data.toList[i].toNat : Int) = (s.data.toList[i].toNat : Int)) = (nd.data.toList[i] = s.data.toList[i]) := propext ⟨fun h => UInt8.toNat_inj.mp (by omega), fun h => by rw [h]⟩
      by_cases c : nd.data.toList[i] = 63 ∨ nd.data.toList[i] = s.data.toList[i]
      · refine Ev.next ⟨0, fun k _ => ?_⟩ (ih (i + 1) (by omega) (fun j hj hs h => (Nat.lt_succ_iff_lt_or_eq.1 h).elim (hp j hj hs) (fun e => by subst e; exact c)))
        rw [impl_meets.l0, if_pos (by omega), if_pos (by omega), if_pos (by omega), e1, e2, ew]
        simp only [q63, qd]
        rcases c with c | c
        · rw [if_pos c]
        · by_cases c6 : nd.data.toList[i] = 63
          · rw [if_pos c6]
          · rw [if_neg c6, if_pos (by omega), if_pos c]
      · have c1 : ¬ nd.data.toList[i] = 63 := fun h => c (.inl h)
        have c2 : ¬ nd.data.toList[i] = s.data.toList[i] := fun h => c (.inr h)
        refine Ev.last fun k => ?_
        rw [impl_meets.l0, if_pos (by omega), if_pos (by omega), if_pos (by omega), e1, e2]
        simp only [q63, qd]
        rw [if_neg c1, if_pos (by omega), if_neg c2, meetsL_not _ _ i h1 h2 c1 c2]
  have := key nd.size 0 (by omega) (fun j _ _ h => absurd h (by omega))
  exact this
def tickAt (l : List ByteArray) (s : List UInt8) (k j : Nat) : UInt8 := if j < k then (tickL l s).getD j 0 else s.getD j 0
def impl_Lamps_tick.f (l0_0 : List ByteArray) (a1 : ByteArray) : Option ByteArray := if l0_0.length = a1.size ∧ a1.size ≤ 1000 ∧ (∀ x ∈ l0_0, x.size ≤ a1.size) then some ⟨(tickL l0_0 a1.data.toList).toArray⟩ else none
set_option maxHeartbeats 1000000 in
set_option maxRecDepth 100000 in
theorem impl_Lamps_tick.calls (A0_0 : Option Addr) (c0_0 : Nat) (l0_0 : List ByteArray) (a1 : ByteArray) (r : ByteArray) (w : World) (hr0_0 : Kd.C Kd.string w A0_0 l0_0.length l0_0) (hc0_0 : l0_0.length ≤ c0_0) (h : impl_Lamps_tick.f l0_0 a1 = some r) :
    Calls Tryd.prog 52 #[.agg #[.slice A0_0 l0_0.length c0_0], .string a1] w fun e w' => e = .returned (.string r) ∧ Below w.heap.size w w' := by
  unfold impl_Lamps_tick.f at h
  split at h
  case isFalse => cases h
  case isTrue hc =>
  obtain ⟨hln, hmx, hall⟩ := hc
  have hR := Option.some.inj h
  clear h
  have hu := Tryd.underlying40
  have hus := Tryd.underlying9
  have hcv : ∀ (wx : World) (s : ByteArray), (convert 9 66 (.string s)).run Tryd.prog wx = .ok (.slice (some ⟨wx.heap.size, 0, none⟩) s.size (grownCap wx s.size 0 5)) (Lib.bytesWorld wx 5 s) := fun wx s => Lib.run_convert_string_bytes wx 9 66 5 s Tryd.underlying9 Tryd.underlying66 Tryd.underlying5
  have HR := Aside0.mk hR
  have HRR := Aside0.mk hr0_0
  have HZs := Aside0.mk (show a1.size = a1.data.toList.length from Lib.size_eq a1)
  have HLN := Aside0.mk hln
  have HMX := Aside0.mk hmx
  have HALL := Aside0.mk hall
  clear hr0_0 hR hln hmx hall
  have hcl0 : (Lib.bytesWorld (w.alloc (.cells #[.slice A0_0 l0_0.length c0_0] 40)) 5 a1).cell? ⟨w.heap.size, 0, none⟩ = some (.slice A0_0 l0_0.length c0_0) := by
    rw [Lib.bytesWorld_old _ _ _ _ (by simp)]; go_simp
  go_enter Tryd.func52, Tryd.ntmps52
  go_wp2
  have HBY := Aside0.mk (bytesAt_made (w.alloc (.cells #[.slice A0_0 l0_0.length c0_0] 40)) 5 a1)
  have HHB := Aside0.mk (below_bytes (below_alloc (Below.refl w.heap.size w) (.cells #[.slice A0_0 l0_0.length c0_0] 40)) (by simp) 5 a1)
  clear hcv
  have hsz1 : (w.alloc (.cells #[.slice A0_0 l0_0.length c0_0] 40)).heap.size = w.heap.size + 1 := by simp
  rw [hsz1] at HBY
  clear hsz1
  obtain ⟨K, hK⟩ : ∃ K, K = w.heap.size + 1 := ⟨_, rfl⟩
  rw [← hK] at HBY ⊢
  have HKB := Aside0.mk (show w.heap.size ≤ K by omega)
  clear hK
  obtain ⟨m, hm⟩ : ∃ m, m = (Lib.bytesCells (w.alloc (.cells #[.slice A0_0 l0_0.length c0_0] 40)) 5 a1).size := ⟨_, rfl⟩
  rw [← hm] at HBY
  clear hm
  generalize Lib.bytesWorld (w.alloc (.cells #[.slice A0_0 l0_0.length c0_0] 40)) 5 a1 = W0 at HBY HHB hcl0 ⊢
  generalize grownCap (w.alloc (.cells #[.slice A0_0 l0_0.length c0_0] 40)) a1.size 0 5 = cp
  go_loopg [13] l0_0.length (fun gg v13 w' => ∃ k : Nat, k + gg = l0_0.length ∧ v13 = .int .i64 k ∧ Aside0 (bytesAt w' K m 5 a1.size (tickAt l0_0 a1.data.toList k)) ∧ Aside0 (Below w.heap.size w w'))
  case atStart => exact ⟨0, by omega, rfl, ⟨bytesAt_congr HBY.out (fun j hj => by simp [tickAt])⟩, HHB⟩
  case round =>
    clear HBY HHB hcl0
    obtain ⟨k, hks, rfl, HBY, HB⟩ := hrel
    by_cases hp : k < l0_0.length
    · have hps : k < a1.size := by rw [← HLN.out]; exact hp
      have hk1000 : k < 1000 := by have := HMX.out; omega
      have hpl : k < a1.data.toList.length := by rw [← HZs.out]; exact hps
      obtain ⟨ad, rfl, hx0⟩ := Kd.at_string HRR.out (k : Int) (by omega) (by omega)
      simp only [Int.toNat_natCast] at hx0
      replace hx0 := (HB.out.cell (World.block_lt_of_cell? w _ hx0)).trans hx0
      have ex : rdOf ByteArray.empty l0_0 (k : Int) = l0_0[k] := by simp [rdOf, hp]
      rw [ex] at hx0
      clear ex
      have hndz := HALL.out l0_0[k] (List.getElem_mem hp)
      have htk : (tickL l0_0 a1.data.toList).getD k 0 = if meetsL l0_0[k].data.toList a1.data.toList = true then 97 - a1.data.toList[k] else a1.data.toList[k] := by
        have h1 : k < (tickL l0_0 a1.data.toList).length := by simp [tickL]; omega
        simp only [List.getD, List.getElem?_eq_getElem h1, Option.getD_some]
        simp [tickL]
      obtain ⟨nd, hnd⟩ : ∃ nd, nd = l0_0[k] := ⟨_, rfl⟩
      rw [← hnd] at hx0 hndz htk
      clear hnd
      obtain ⟨KK, hKK⟩ := implMeets_ev nd a1 hndz HMX.out
      have HM := Aside0.mk (hKK KK (Nat.le_refl _))
      clear hKK
      have hce := bytesAt_cell HBY.out k hps
      have hfz := bytesAt_frozen HBY.out k hps
      have et : tickAt l0_0 a1.data.toList k k = a1.data.toList[k] := by simp [tickAt, List.getD, List.getElem?_eq_getElem hpl]
      rw [et] at hce
      clear et
      obtain ⟨b, hb⟩ : ∃ b, b = a1.data.toList[k] := ⟨_, rfl⟩
      rw [← hb] at hce htk
      have HBB := Aside0.mk hb
      have HTK := Aside0.mk htk
      clear hb htk hndz
      obtain ⟨M, hM⟩ : ∃ M, M = meetsL nd.data.toList a1.data.toList := ⟨_, rfl⟩
      rw [← hM] at HM HTK
      clear hM
      have p6 : (0 ≤ (k : Int)) = True := eq_true (by omega)
      have q6 : ((k : Int) < (a1.size : Int)) = True := eq_true (by omega)
      cases M with
      | true =>
        go_wp2_with (go_at_call 89; refine (impl_meets.calls KK nd a1 true _ HM.out).mono ?_; rintro e w' ⟨rfl, ⟨n, rfl⟩⟩)
        have hsub : ((97 : Int) - (b.toNat : Int)) % 256 = ((97 - b : UInt8).toNat : Int) := by
          rw [UInt8.toNat_sub]
          have := b.toNat_lt
          have e97 : (97 : UInt8).toNat = 97 := rfl
          rw [e97]
          omega
        rw [hsub]
        go_roundg (l0_0.length - (k + 1))
        case measure => omega
        case rel =>
          refine ⟨k + 1, by omega, by go_num, ⟨bytesAt_congr (bytesAt_set (bytesAt_below HBY.out (pw_below_drewN (Below.refl _ _) n)) k (97 - b)) (fun j hj => ?_)⟩, ⟨below_setCell (below_step HB.out (pw_below_drewN (Below.refl _ _) n)) K k _ HKB.out⟩⟩
          unfold tickAt
          by_cases c : j = k
          · subst c
            rw [if_pos (by omega), if_pos rfl, HTK.out]; simp
          · rw [if_neg c]
            by_cases c2 : j < k
            · rw [if_pos (by omega), if_pos c2]
            · rw [if_neg (by omega), if_neg c2]
      | false =>
        go_wp2_with (go_at_call 89; refine (impl_meets.calls KK nd a1 false _ HM.out).mono ?_; rintro e w' ⟨rfl, ⟨n, rfl⟩⟩)
        go_roundg (l0_0.length - (k + 1))
        case measure => omega
        case rel =>
          refine ⟨k + 1, by omega, by go_num, ⟨bytesAt_congr (bytesAt_below HBY.out (pw_below_drewN (Below.refl _ _) n)) (fun j hj => ?_)⟩, ⟨below_step HB.out (pw_below_drewN (Below.refl _ _) n)⟩⟩
          unfold tickAt
          by_cases c : j = k
          · subst c
            rw [if_pos (by omega), if_neg (by omega), HTK.out, HBB.out]
            simp [List.getD, List.getElem?_eq_getElem hpl]
          · by_cases c2 : j < k
            · rw [if_pos (by omega), if_pos c2]
            · rw [if_neg (by omega), if_neg c2]
    · have hts : (tickL l0_0 a1.data.toList).length = a1.size := by rw [tickL_length _ _ (by have := HLN.out; have := HZs.out; omega)]; exact HZs.out.symm
      have hcs := bytesAt_string (P := Tryd.prog) (src := 66) (dst := 9) HBY.out Tryd.underlying66 Tryd.underlying5 Tryd.underlying9 cp (tickL l0_0 a1.data.toList) hts (fun j hj => by
        unfold tickAt
        rw [if_pos (by have := HLN.out; omega)]
        simp [List.getD, List.getElem?_eq_getElem hj])
      go_wp2
      go_ret
      exact ⟨ret_str HR.out, HB.out⟩

/-! ### impl_IsUndone: function 18 -/
-- by hand (wip/ext/IsUndone.tpl)
def undoneS (l : List ByteArray) (r : List ByteArray) : List ByteArray := (r.map (tickS l)).foldl addS []
theorem undoneS_step (l r : List ByteArray) (k : Nat) (h : k < r.length) : undoneS l (r.take (k + 1)) = addS (undoneS l (r.take k)) (tickS l r[k]) := by
  unfold undoneS
  rw [List.take_succ_eq_append_getElem h, List.map_append, List.foldl_append]
  rfl
theorem undoneS_le (l r : List ByteArray) : (undoneS l r).length ≤ r.length := by
  have key : ∀ (m acc : List ByteArray), (m.foldl addS acc).length ≤ acc.length + m.length := by
    intro m
    induction m with
    | nil => intro acc; simp
    | cons a m ih =>
      intro acc
      have h1 := ih (addS acc a)
      have h2 := addS_length acc a
      simp only [List.foldl_cons, List.length_cons]
      omega
  have := key (r.map (tickS l)) []
  simpa [undoneS] using this
def impl_IsUndone.f (l0_0 : List ByteArray) : Option (Bool × Bool) := if areLampsB l0_0 = true then (impl_textStates.f 3000 (l0_0.length : Int)).bind fun r => (if r.length ≤ 1024 ∧ (r.all fun s => litR l0_0 s) = true then some (((undoneS l0_0 r).length : Int) == ((2 ^ l0_0.length : Nat) : Int), true) else none) else some (false, false)
set_option maxHeartbeats 2000000 in
set_option maxRecDepth 100000 in
theorem impl_IsUndone.calls (A0_0 : Option Addr) (c0_0 : Nat) (l0_0 : List ByteArray) (r1 r2 : Bool) (w : World) (hr0_0 : Kd.C Kd.string w A0_0 l0_0.length l0_0) (hc0_0 : l0_0.length ≤ c0_0) (h : impl_IsUndone.f l0_0 = some (r1, r2)) :
    Calls Tryd.prog 18 #[.agg #[.slice A0_0 l0_0.length c0_0]] w fun e w' => e = .returned (.tuple #[.bool r1, .bool r2]) ∧ Below w.heap.size w w' := by
  unfold impl_IsUndone.f at h
  have hu := Tryd.underlying40
  have hus := Tryd.underlying9
  have HG := Aside0.mk (fun W (hb : Below w.heap.size w W) => impl_AreLamps.calls A0_0 c0_0 l0_0 (areLampsB l0_0) W (Kd.C_below hr0_0 hb) hc0_0 rfl)
  obtain ⟨G, hG⟩ : ∃ G, G = areLampsB l0_0 := ⟨_, rfl⟩
  rw [← hG] at h HG
  have HB0 := Aside0.mk (show Below w.heap.size w (w.alloc (.cells #[.slice A0_0 l0_0.length c0_0] 40)) from (Below.refl _ w).alloc (Nat.le_refl _) _)
  have BK0 := Aside0.mk (show (w.alloc (.cells #[.slice A0_0 l0_0.length c0_0] 40)).heap[w.heap.size]? = some (.cells #[.slice A0_0 l0_0.length c0_0] 40 (0, 0)) from (MapKept.heap_alloc w _).1)
  cases G with
  | false =>
    simp only [Bool.false_eq_true, if_false, Option.some.injEq, Prod.mk.injEq] at h
    obtain ⟨rfl, rfl⟩ := h
    clear hG hr0_0
    go_enter Tryd.func18, Tryd.ntmps18
    go_wp2_with (go_at_call 50; refine (HG.out _ HB0.out).mono ?_; rintro e w1 ⟨rfl, hb⟩; have HB1 := Aside0.mk (below_step HB0.out hb); clear hb)
    go_ret2
    exact ⟨rfl, HB1.out⟩
  | true =>
    simp only [if_true] at h
    obtain ⟨r, hts, h⟩ := Option.bind_eq_some_iff.mp h
    split at h
    case isFalse => cases h
    case isTrue hcond =>
    obtain ⟨hle, hall⟩ := hcond
    simp only [Option.some.injEq, Prod.mk.injEq] at h
    obtain ⟨h1, rfl⟩ := h
    have HR1 := Aside0.mk h1
    have hl10 := (lamps_facts hG.symm).2.1
    have HL10 := Aside0.mk hl10
    have HLE := Aside0.mk hle
    have HALL := Aside0.mk hall
    have HT := Aside0.mk (fun W => impl_textStates.calls 3000 (l0_0.length : Int) r W hts)
    have HRR := Aside0.mk hr0_0
    have hmk : ∀ wx, (Instr.makeMap 73 none).run Tryd.prog wx = .ok (.map (some wx.heap.size)) (wx.alloc (.map #[] 0)) := fun wx => run_makeMap 73 wx
    clear h1 hG hle hall hts hr0_0 hl10
    go_enter Tryd.func18, Tryd.ntmps18
    go_wp2_with (first
      | (go_at_call 50; refine (HG.out _ HB0.out).mono ?_; rintro e w1 ⟨rfl, hb⟩; have HB1 := Aside0.mk (below_step HB0.out hb); have BK1 := Aside0.mk (blk_alloc (blk_below BK0.out hb) (.map #[] 0)); have HM1 := Aside0.mk (setHas_made Tryd.prog 9 4 w1); have HB2 := Aside0.mk (HB1.out.alloc (below_size HB1.out) (.map #[] 0)); have hcl2 := (blk_cell BK1.out 0).trans rfl; clear hb)
      | (go_at_call 51; refine (HT.out _).mono ?_; rintro e w2 ⟨v, rfl, ho, hb⟩; obtain ⟨A, c, rfl⟩ := Kd.R_slice ho; have HO3 := Aside0.mk (Kd.R_lower ho (below_size HB2.out)); have HM3 := Aside0.mk (setHas_below HM1.out hb); have HB3 := Aside0.mk (below_step HB2.out hb); have BK3 := Aside0.mk (blk_below BK1.out hb); have HMW := Aside0.mk (below_size HB1.out); clear ho hb hcl2))
    have HMNE := Aside0.mk (show w1.heap.size ≠ w.heap.size by
      intro e
      have h1 := BK3.out
      obtain ⟨es, c', h2⟩ := setHas_block HM3.out
      rw [e, h1] at h2
      cases h2)
    clear BK0 HB0 BK1 HM1 HB1 HG HT HB2 hmk h
    obtain ⟨MB, hMB⟩ : ∃ MB, MB = w1.heap.size := ⟨_, rfl⟩
    rw [← hMB] at HM3 HMW HMNE ⊢
    clear hMB
    go_loopg [16] r.length (fun gg v16 w' => ∃ k : Nat, k + gg = r.length ∧ v16 = .int .i64 k ∧ Aside0 (setHas Tryd.prog 9 4 w' MB (undoneS l0_0 (r.take k))) ∧ Aside0 (Kd.R Kd.string 9 w' w.heap.size (fun _ => True) (.slice A r.length c) r) ∧ Aside0 (w'.heap[w.heap.size]? = some (.cells #[.slice A0_0 l0_0.length c0_0] 40 (0, 0))) ∧ Aside0 (Below w.heap.size w w'))
    case atStart => exact ⟨0, by omega, rfl, HM3, HO3, BK3, HB3⟩
    case round =>
      clear HM3 HO3 BK3 HB3
      obtain ⟨k, hks, rfl, HM, HO, BK, HB⟩ := hrel
      by_cases hp : k < r.length
      · have hk1024 : k < 1024 := by have := HLE.out; omega
        obtain ⟨ad, hA, hx⟩ := Kd.at_string (Kd.R_reads' HO.out).2.2 (k : Int) (by omega) (by omega)
        subst hA
        simp only [Int.toNat_natCast] at hx
        have ex : rdOf ByteArray.empty r (k : Int) = r[k] := by simp [rdOf, hp]
        rw [ex] at hx
        clear ex
        have hlit : litR l0_0 r[k] = true := List.all_eq_true.1 HALL.out _ (List.getElem_mem hp)
        have HST := Aside0.mk (undoneS_step l0_0 r k hp)
        obtain ⟨s, hs⟩ : ∃ s, s = r[k] := ⟨_, rfl⟩
        rw [← hs] at hx hlit HST
        have hsz : (tickS l0_0 s).size ≤ maxLen := by
          have h1 := (lit_facts hlit).2.1
          have h2 := (lit_facts hlit).2.2.2.1
          have := tickS_size h1
          simp only [maxLen]; omega
        have HSZ := Aside0.mk hsz
        have HTK := Aside0.mk (show impl_Lamps_tick.f l0_0 s = some (tickS l0_0 s) by
          obtain ⟨_, h1, _, h2, h3, h4⟩ := lit_facts hlit
          unfold impl_Lamps_tick.f
          rw [if_pos ⟨h1, by omega, h3⟩]
          rfl)
        have hcl := (blk_cell BK.out 0).trans rfl
        have HUL := Aside0.mk (Nat.le_trans (undoneS_le l0_0 (r.take k)) (show (r.take k).length ≤ 1024 by simp; omega))
        clear hs hlit hsz
        go_wp2_with (go_at_call 52; refine (impl_Lamps_tick.calls A0_0 c0_0 l0_0 s (tickS l0_0 s) _ (Kd.C_below HRR.out HB.out) hc0_0 HTK.out).mono ?_; rintro e w3 ⟨rfl, hb⟩; have HO3 := Aside0.mk (Kd.R_below HO.out hb); have HM3 := Aside0.mk (setHas_below HM.out hb); have BK3 := Aside0.mk (blk_below BK.out hb); have HB3 := Aside0.mk (below_step HB.out hb); obtain ⟨w4, hup, hm4, hg4⟩ := setHas_put (t := 73) HM3.out Tryd.underlying9 Tryd.underlying73 Tryd.underlying4 (tickS l0_0 s) HSZ.out (by have := HUL.out; simp only [maxLen]; omega); obtain ⟨es_, c_, hbm⟩ := setHas_block HM3.out; have HO4 := Aside0.mk (R_map HO3.out hbm hg4); have BK4 := Aside0.mk (blk_grown BK3.out hg4 (by have := HMNE.out; intro h; cases h; omega)); have HB4 := Aside0.mk (HB3.out.grown hg4 (below_size HB3.out) (fun k' hk' => by cases hk'; exact HMW.out)); have HM4 := Aside0.mk hm4; clear hb hm4 hg4 hbm hcl)
        go_roundg (r.length - (k + 1))
        case measure => omega
        case rel => exact ⟨k + 1, by omega, by go_num, ⟨HST.out ▸ HM4.out⟩, HO4, BK4, HB4⟩
      · have e0 : r.take k = r := List.take_of_length_le (by omega)
        rw [e0] at HM
        have hln : ∀ n ty, (Builtin.len_ #[73] ty #[.map (some MB)]).run Tryd.prog (wr.drewN n) = .ok (.int .i64 ((undoneS l0_0 r).length : Nat)) (wr.drewN n) := fun n ty => setHas_len (setHas_below HM.out (pw_below_drewN (Below.refl _ _) n)) Tryd.underlying73 ty
        have hcl := (blk_cell BK.out 0).trans rfl
        go_wp2
        go_quiet (fail)
        go_wp2
        go_ret2
        have ew : wrap64 (2 ^ min l0_0.length 64) = ((2 ^ l0_0.length : Nat) : Int) := by
          have h10 := HL10.out
          have h1024 : 2 ^ l0_0.length ≤ 1024 := Nat.le_trans (Nat.pow_le_pow_right (by omega) h10) (by decide)
          rw [Nat.min_eq_left (by omega), show ((2 : Int) ^ l0_0.length) = ((2 ^ l0_0.length : Nat) : Int) by simp]
          generalize 2 ^ l0_0.length = q at h1024 ⊢
          exact w64 (by omega) (by omega)
        exact ⟨by rw [← HR1.out, ← ew]; rfl, below_step HB.out (pw_below_drewN (Below.refl _ _) nq)⟩

/-! ### laws_eqStringS: function 22 -/
def laws_eqStringS.l0 : Nat → List ByteArray → List ByteArray → Int → Option (Bool)
 | 0, _, _, _ => none
 | k + 1, x0, x1, x5 => if x5 < (x0.length : Int) then (if 0 ≤ x5 then (if x5 < (x1.length : Int) then (if (rdOf ByteArray.empty x0 x5).toList = (rdOf ByteArray.empty x1 x5).toList then (laws_eqStringS.l0 k x0 x1 (wrap64 (x5 + 1))) else (some false)) else (none)) else (none)) else (some true)
def laws_eqStringS.f (k : Nat) (l0 : List ByteArray) (l1 : List ByteArray) : Option (Bool) := if (l0.length : Int) = (l1.length : Int) then (laws_eqStringS.l0 k l0 l1 0) else (some false)
theorem laws_eqStringS.mono_l : ∀ k, (∀ y0 y1 y2, LeO (laws_eqStringS.l0 k y0 y1 y2) (laws_eqStringS.l0 (k + 1) y0 y1 y2))
 | 0 => fun _ _ _ r h => by simp [laws_eqStringS.l0] at h
 | k + 1 => by
  have ih0 := laws_eqStringS.mono_l k
  ·intro y0 y1 y2
   unfold laws_eqStringS.l0
   repeat' first
   | (with_reducible exact ih0 _ _ _)
   | (with_reducible exact LeO.refl _)
   | (with_reducible exact LeO.none _)
   | (with_reducible refine LeO.ite ?_ ?_)
   | (with_reducible refine LeO.bind ?_ (fun _ => ?_))
   | exact ih0 _ _ _
   | exact LeO.none _
   | refine LeO.ite ?_ ?_
   | refine LeO.bind ?_ (fun _ => ?_)
theorem laws_eqStringS.mono : ∀ a0 a1 k, LeO (laws_eqStringS.f k a0 a1) (laws_eqStringS.f (k + 1) a0 a1) := by
 intro a0 a1 k
 have ih0 := laws_eqStringS.mono_l k
 unfold laws_eqStringS.f
 repeat' first
   | (with_reducible exact ih0 _ _ _)
   | (with_reducible exact LeO.refl _)
   | (with_reducible exact LeO.none _)
   | (with_reducible refine LeO.ite ?_ ?_)
   | (with_reducible refine LeO.bind ?_ (fun _ => ?_))
   | exact ih0 _ _ _
   | exact LeO.none _
   | refine LeO.ite ?_ ?_
   | refine LeO.bind ?_ (fun _ => ?_)
set_option maxHeartbeats 8000000 in
set_option maxRecDepth 100000 in
theorem laws_eqStringS.calls (k : Nat) (A0 : Option Addr) (c0 : Nat) (l0 : List ByteArray) (A1 : Option Addr) (c1 : Nat) (l1 : List ByteArray) (r : Bool) (w : World) (hr0 : Kd.C Kd.string w A0 l0.length l0) (hc0 : l0.length ≤ c0) (hr1 : Kd.C Kd.string w A1 l1.length l1) (hc1 : l1.length ≤ c1) (h : laws_eqStringS.f k l0 l1 = some r) :
  Calls Tryd.prog 22 #[.slice A0 l0.length c0, .slice A1 l1.length c1] w fun e w' => e = .returned (.bool r) ∧ Drawn0 w w' := by
 have HR0 := Aside0.mk hr0
 have HC0 := Aside0.mk hc0
 clear hr0 hc0
 have HR1 := Aside0.mk hr1
 have HC1 := Aside0.mk hc1
 clear hr1 hc1
 have H : (if (l0.length : Int) = (l1.length : Int) then (laws_eqStringS.l0 k l0 l1 0) else (some false)) = some r := h
 clear h
 by_cases c3 : (l0.length : Int) = (l1.length : Int)
 ·rw [if_pos c3] at H
  have c3b0 : ((l0.length : Int) == (l1.length : Int)) = true := beq_iff_eq.mpr c3
  have c3b1 : ((l0.length : Int) != (l1.length : Int)) = false := bne_eq_false_iff_eq.mpr c3
  have c3b2 : (l0.length == l1.length) = true := by first | simpa using c3 | (simp at c3 ⊢; omega)
  clear c3
  have H' := Aside0.mk H
  clear H
  go_enter Tryd.func22, Tryd.ntmps22
  go_wp2
  repeat (go_quiet (fail); try go_wp2)
  go_loopg [5] k (fun kq v5 w' => ∃ (x5_1 : Int), v5 = .int .i64 x5_1 ∧ Aside0 (laws_eqStringS.l0 kq l0 l1 x5_1 = some r) ∧ Aside0 (kq ≤ k) ∧ Drawn0 w w')
  case atStart => exact ⟨(0), (by first | rfl | (simp; done) | (simp [*]; done)), H', ⟨Nat.le_refl _⟩, by repeat (first | exact Drawn0.refl _ | apply Drawn0.step)⟩
  case round =>
   clear H'
   try clear c1
   try clear c2
   try clear p2
   try clear c3
   try clear c3b0
   try clear c3b1
   try clear c3b2
   obtain ⟨x5_1, rfl, HA, HK1, ⟨m1, rfl⟩⟩ := hrel
   cases gk with
   | zero => exact absurd HA.out (by simp [laws_eqStringS.l0])
   | succ k1 =>
    have H := HA.out
    clear HA
    simp only [laws_eqStringS.l0] at H
    by_cases c4 : x5_1 < (l0.length : Int)
    ·rw [if_pos c4] at H
     have c4b0 : decide (x5_1 < (l0.length : Int)) = true := decide_eq_true c4
     clear c4
     by_cases c5 : 0 ≤ x5_1
     ·rw [if_pos c5] at H
      have c5b0 : decide (0 ≤ x5_1) = true := decide_eq_true c5
      clear c5
      by_cases c6 : x5_1 < (l1.length : Int)
      ·rw [if_pos c6] at H
       have c6b0 : decide (x5_1 < (l1.length : Int)) = true := decide_eq_true c6
       clear c6
       by_cases c7 : (rdOf ByteArray.empty l0 x5_1).toList = (rdOf ByteArray.empty l1 x5_1).toList
       ·rw [if_pos c7] at H
        have c7b0 : ((rdOf ByteArray.empty l0 x5_1).toList == (rdOf ByteArray.empty l1 x5_1).toList) = true := beq_iff_eq.mpr c7
        have c7b1 : ((rdOf ByteArray.empty l0 x5_1).toList != (rdOf ByteArray.empty l1 x5_1).toList) = false := bne_eq_false_iff_eq.mpr c7
        clear c7
        have H' := Aside0.mk H
        clear H
        have p152 : 0 ≤ (x5_1 : Int) := of_decide_eq_true (by first | (with_reducible assumption) | assumption)
        have q152 : x5_1 < (l0.length : Int) := of_decide_eq_true (by first | (with_reducible assumption) | assumption)
        obtain ⟨ad152, e152, hx152_0⟩ := Kd.at_string HR0.out x5_1 p152 q152
        cases e152
        replace p152 := eq_true p152
        replace q152 := eq_true q152
        have p153 : 0 ≤ (x5_1 : Int) := of_decide_eq_true (by first | (with_reducible assumption) | assumption)
        have q153 : x5_1 < (l1.length : Int) := of_decide_eq_true (by first | (with_reducible assumption) | assumption)
        obtain ⟨ad153, e153, hx153_0⟩ := Kd.at_string HR1.out x5_1 p153 q153
        cases e153
        replace p153 := eq_true p153
        replace q153 := eq_true q153
        go_wp2
        repeat (go_quiet (fail); try go_wp2)
        go_roundg k1
        case measure => have := HK1.out; omega
        case rel => exact ⟨(wrap64 (x5_1 + 1)), (by first | rfl | (simp; done) | (simp [*]; done)), H', ⟨by have := HK1.out; omega⟩, by repeat (first | exact Drawn0.refl _ | apply Drawn0.step)⟩
       ·rw [if_neg c7] at H
        have c7b0 : ((rdOf ByteArray.empty l0 x5_1).toList == (rdOf ByteArray.empty l1 x5_1).toList) = false := beq_eq_false_iff_ne.mpr c7
        have c7b1 : ((rdOf ByteArray.empty l0 x5_1).toList != (rdOf ByteArray.empty l1 x5_1).toList) = true := bne_iff_ne.mpr c7
        obtain rfl := Option.some.inj H
        have p152 : 0 ≤ (x5_1 : Int) := of_decide_eq_true (by first | (with_reducible assumption) | assumption)
        have q152 : x5_1 < (l0.length : Int) := of_decide_eq_true (by first | (with_reducible assumption) | assumption)
        obtain ⟨ad152, e152, hx152_0⟩ := Kd.at_string HR0.out x5_1 p152 q152
        cases e152
        replace p152 := eq_true p152
        replace q152 := eq_true q152
        have p153 : 0 ≤ (x5_1 : Int) := of_decide_eq_true (by first | (with_reducible assumption) | assumption)
        have q153 : x5_1 < (l1.length : Int) := of_decide_eq_true (by first | (with_reducible assumption) | assumption)
        obtain ⟨ad153, e153, hx153_0⟩ := Kd.at_string HR1.out x5_1 p153 q153
        cases e153
        replace p153 := eq_true p153
        replace q153 := eq_true q153
        go_wp2
        repeat (go_quiet (fail); try go_wp2)
        go_ret
        exact ⟨by first | rfl | (simp; done) | (simp [*]; done), by repeat (first | exact Drawn0.refl _ | apply Drawn0.step)⟩
      ·rw [if_neg c6] at H
       exact absurd H (by simp)
     ·rw [if_neg c5] at H
      exact absurd H (by simp)
    ·rw [if_neg c4] at H
     have c4b0 : decide (x5_1 < (l0.length : Int)) = false := decide_eq_false c4
     clear c4
     obtain rfl := Option.some.inj H
     go_wp2
     repeat (go_quiet (fail); try go_wp2)
     go_ret
     exact ⟨by first | rfl | (simp; done) | (simp [*]; done), by repeat (first | exact Drawn0.refl _ | apply Drawn0.step)⟩
 ·rw [if_neg c3] at H
  have c3b0 : ((l0.length : Int) == (l1.length : Int)) = false := beq_eq_false_iff_ne.mpr c3
  have c3b1 : ((l0.length : Int) != (l1.length : Int)) = true := bne_iff_ne.mpr c3
  have c3b2 : (l0.length == l1.length) = false := by first | simpa using c3 | (simp at c3 ⊢; omega)
  obtain rfl := Option.some.inj H
  go_enter Tryd.func22, Tryd.ntmps22
  go_wp2
  repeat (go_quiet (fail); try go_wp2)
  go_ret
  exact ⟨by first | rfl | (simp; done) | (simp [*]; done), by repeat (first | exact Drawn0.refl _ | apply Drawn0.step)⟩

/-! ### laws_eqLamps: function 19 -/
def laws_eqLamps.f (k : Nat) (l0_0 : List ByteArray) (l1_0 : List ByteArray) : Option (Bool) := (laws_eqStringS.f k l0_0 l1_0).bind fun t156 => (if t156 = true then (some true) else (some false))
theorem laws_eqLamps.mono : ∀ a0 a1 k, LeO (laws_eqLamps.f k a0 a1) (laws_eqLamps.f (k + 1) a0 a1) := by
 intro a0 a1 k
 unfold laws_eqLamps.f
 repeat' first
   | (with_reducible exact laws_eqStringS.mono _ _ _)
   | (with_reducible exact LeO.refl _)
   | (with_reducible exact LeO.none _)
   | (with_reducible refine LeO.ite ?_ ?_)
   | (with_reducible refine LeO.bind ?_ (fun _ => ?_))
   | exact laws_eqStringS.mono _ _ _
   | exact LeO.none _
   | refine LeO.ite ?_ ?_
   | refine LeO.bind ?_ (fun _ => ?_)
set_option maxHeartbeats 8000000 in
set_option maxRecDepth 100000 in
theorem laws_eqLamps.calls (k : Nat) (A0_0 : Option Addr) (c0_0 : Nat) (l0_0 : List ByteArray) (A1_0 : Option Addr) (c1_0 : Nat) (l1_0 : List ByteArray) (r : Bool) (w : World) (hr0_0 : Kd.C Kd.string w A0_0 l0_0.length l0_0) (hc0_0 : l0_0.length ≤ c0_0) (hr1_0 : Kd.C Kd.string w A1_0 l1_0.length l1_0) (hc1_0 : l1_0.length ≤ c1_0) (h : laws_eqLamps.f k l0_0 l1_0 = some r) :
  Calls Tryd.prog 19 #[.agg #[.slice A0_0 l0_0.length c0_0], .agg #[.slice A1_0 l1_0.length c1_0]] w fun e w' => e = .returned (.bool r) ∧ Below w.heap.size w w' := by
 have hu40 := Tryd.underlying40
 have HR0_0 := Aside0.mk hr0_0
 have HC0_0 := Aside0.mk hc0_0
 clear hr0_0 hc0_0
 have HR1_0 := Aside0.mk hr1_0
 have HC1_0 := Aside0.mk hc1_0
 clear hr1_0 hc1_0
 have HB := Aside0.mk (Below.refl w.heap.size w)
 have H : ((laws_eqStringS.f k l0_0 l1_0).bind fun t156 => (if t156 = true then (some true) else (some false))) = some r := h
 clear h
 replace H := Option.bind_eq_some_iff.mp H
 obtain ⟨t156, A30, H⟩ := H
 replace H : (if t156 = true then (some true) else (some false)) = some r := H
 have A3 := Aside0.mk A30
 clear A30
 by_cases c4 : t156 = true
 ·subst c4
  have H1 : (some true) = some r := by rw [if_pos rfl] at H; exact H
  clear H
  have H := H1
  clear H1
  obtain rfl := Option.some.inj H
  go_enter Tryd.func19, Tryd.ntmps19
  go_wp2_with (first | ((with_reducible refine gate_dst (N := 2) rfl ?_); refine box_event ?hg (N := 2) ?hd (cs := #[.slice A0_0 l0_0.length c0_0]) (t := 40) ?hr ?_; (case hd => rfl); (case hg => rfl); (case hr => first | (go_simp; done) | (go_simp; rfl)); intro gb154 hg w5 hbox hb; have n0_ := Aside0.mk (below_step (by repeat (first | (with_reducible first | exact HB.out | apply below_alloc | apply pw_below_drewN | apply below_drew1) | exact HB.out)) hb); have n1_ := Aside0.mk (hbox); have n2_ := Aside0.mk ((by rw [hg]; exact (below_size (by repeat (first | (with_reducible first | exact HB.out | apply below_alloc | apply pw_below_drewN | apply below_drew1) | exact HB.out))) : w.heap.size ≤ gb154)); have n3_ := Aside0.mk ((by rw [hg]; exact (below_size (by repeat (first | (with_reducible first | exact HB.out | apply below_alloc | apply pw_below_drewN | apply below_drew1) | exact HB.out))) : w.heap.size ≤ gb154)); clear HB; have HB := n0_; have BK154 := n1_; have GW154 := n2_; have GE154 := n3_; clear n0_ n1_ n2_ n3_; clear hb hbox hg) | ((with_reducible refine gate_dst (N := 3) rfl ?_); refine box_event ?hg (N := 3) ?hd (cs := #[.slice A1_0 l1_0.length c1_0]) (t := 40) ?hr ?_; (case hd => rfl); (case hg => rfl); (case hr => first | (go_simp; done) | (go_simp; rfl)); intro gb155 hg w6 hbox hb; have n0_ := Aside0.mk (blk_below (g := gb154) (o := .cells #[.slice A0_0 l0_0.length c0_0] 40 (0, 0)) (by (with_reducible repeat (first | refine blk_drewN ?_ _ | refine blk_drew ?_ | refine blk_alloc ?_ _)); exact BK154.out) hb); have n1_ := Aside0.mk (below_step (by repeat (first | (with_reducible first | exact HB.out | apply below_alloc | apply pw_below_drewN | apply below_drew1 | refine below_set ?_ GE154.out) | exact HB.out)) hb); have n2_ := Aside0.mk (hbox); have n3_ := Aside0.mk ((by rw [hg]; exact (below_size (by repeat (first | (with_reducible first | exact HB.out | apply below_alloc | apply pw_below_drewN | apply below_drew1 | refine below_set ?_ GE154.out) | exact HB.out))) : w.heap.size ≤ gb155)); have n4_ := Aside0.mk ((by rw [hg]; exact (below_size (by repeat (first | (with_reducible first | exact HB.out | apply below_alloc | apply pw_below_drewN | apply below_drew1 | refine below_set ?_ GE154.out) | exact HB.out))) : w.heap.size ≤ gb155)); have n5_ := Aside0.mk ((by rw [hg]; exact Nat.ne_of_lt (blk_lt (g := gb154) (o := .cells #[.slice A0_0 l0_0.length c0_0] 40 (0, 0)) (by (with_reducible repeat (first | refine blk_drewN ?_ _ | refine blk_drew ?_ | refine blk_alloc ?_ _)); exact BK154.out)) : gb154 ≠ gb155)); have n6_ := Aside0.mk ((by rw [hg]; exact Nat.ne_of_gt (blk_lt (g := gb154) (o := .cells #[.slice A0_0 l0_0.length c0_0] 40 (0, 0)) (by (with_reducible repeat (first | refine blk_drewN ?_ _ | refine blk_drew ?_ | refine blk_alloc ?_ _)); exact BK154.out)) : gb155 ≠ gb154)); clear BK154; clear HB; have BK154 := n0_; have HB := n1_; have BK155 := n2_; have GW155 := n3_; have GE155 := n4_; have NB154_155 := n5_; have NB155_154 := n6_; clear n0_ n1_ n2_ n3_ n4_ n5_ n6_; clear hb hbox hg; have hnb7 := NB154_155.out; have hnc7 := NB155_154.out; have hcz8_0 : w6.cell? ⟨gb154, 0, none⟩ = some (.slice A0_0 l0_0.length c0_0) := (blk_cell BK154.out 0).trans rfl; have hfz8_0 := blk_frozen BK154.out 0; have hcz9_0 : w6.cell? ⟨gb155, 0, none⟩ = some (.slice A1_0 l1_0.length c1_0) := (blk_cell BK155.out 0).trans rfl; have hfz9_0 := blk_frozen BK155.out 0) | ((with_reducible refine gate_callee (f := 22) rfl ?_); refine goesL_ (some 9) rfl rfl Tryd.func22 (by kernel_rfl) rfl #[.slice A0_0 l0_0.length c0_0, .slice A1_0 l1_0.length c1_0] rfl (by (try simp only [List.map_toArray, List.map_cons, List.map_nil]); first | done | rfl | (simp only [List.length_drop, List.length_take]; rfl)) ?_; (with_reducible refine (laws_eqStringS.calls k _ _ l0_0 _ _ l1_0 true _ ?side1 ?side2 ?side3 ?side4 A3.out).mono ?_); (case side1 => repeat (first | exact (Kd.C_below HR0_0.out HB.out) | (with_reducible refine Kd.C_alloc ?_ _) | (with_reducible refine Kd.C_drewN ?_ _) | (with_reducible refine Kd.C_drew ?_))); (case side2 => exact HC0_0.out); (case side3 => repeat (first | exact (Kd.C_below HR1_0.out HB.out) | (with_reducible refine Kd.C_alloc ?_ _) | (with_reducible refine Kd.C_drewN ?_ _) | (with_reducible refine Kd.C_drew ?_))); (case side4 => exact HC1_0.out); rintro e w' ⟨rfl, ⟨nd, rfl⟩⟩; refine ⟨_, rfl, ?_⟩))
  go_ret
  exact ⟨by first | rfl | (simp [errW_none, errW_some] <;> rfl) | (simp [*, errW_none, errW_some] <;> rfl), by repeat (first | (with_reducible first | exact HB.out | apply below_alloc | apply pw_below_drewN | apply below_drew1 | refine below_set ?_ GE154.out | refine below_set ?_ GE155.out) | exact HB.out)⟩
 ·replace c4 := Bool.eq_false_iff.mpr c4
  subst c4
  have H1 : (some false) = some r := by rw [if_neg (show ¬ (false = true) by decide)] at H; exact H
  clear H
  have H := H1
  clear H1
  obtain rfl := Option.some.inj H
  go_enter Tryd.func19, Tryd.ntmps19
  go_wp2_with (first | ((with_reducible refine gate_dst (N := 2) rfl ?_); refine box_event ?hg (N := 2) ?hd (cs := #[.slice A0_0 l0_0.length c0_0]) (t := 40) ?hr ?_; (case hd => rfl); (case hg => rfl); (case hr => first | (go_simp; done) | (go_simp; rfl)); intro gb154 hg w10 hbox hb; have n0_ := Aside0.mk (below_step (by repeat (first | (with_reducible first | exact HB.out | apply below_alloc | apply pw_below_drewN | apply below_drew1) | exact HB.out)) hb); have n1_ := Aside0.mk (hbox); have n2_ := Aside0.mk ((by rw [hg]; exact (below_size (by repeat (first | (with_reducible first | exact HB.out | apply below_alloc | apply pw_below_drewN | apply below_drew1) | exact HB.out))) : w.heap.size ≤ gb154)); have n3_ := Aside0.mk ((by rw [hg]; exact (below_size (by repeat (first | (with_reducible first | exact HB.out | apply below_alloc | apply pw_below_drewN | apply below_drew1) | exact HB.out))) : w.heap.size ≤ gb154)); clear HB; have HB := n0_; have BK154 := n1_; have GW154 := n2_; have GE154 := n3_; clear n0_ n1_ n2_ n3_; clear hb hbox hg) | ((with_reducible refine gate_dst (N := 3) rfl ?_); refine box_event ?hg (N := 3) ?hd (cs := #[.slice A1_0 l1_0.length c1_0]) (t := 40) ?hr ?_; (case hd => rfl); (case hg => rfl); (case hr => first | (go_simp; done) | (go_simp; rfl)); intro gb155 hg w11 hbox hb; have n0_ := Aside0.mk (blk_below (g := gb154) (o := .cells #[.slice A0_0 l0_0.length c0_0] 40 (0, 0)) (by (with_reducible repeat (first | refine blk_drewN ?_ _ | refine blk_drew ?_ | refine blk_alloc ?_ _)); exact BK154.out) hb); have n1_ := Aside0.mk (below_step (by repeat (first | (with_reducible first | exact HB.out | apply below_alloc | apply pw_below_drewN | apply below_drew1 | refine below_set ?_ GE154.out) | exact HB.out)) hb); have n2_ := Aside0.mk (hbox); have n3_ := Aside0.mk ((by rw [hg]; exact (below_size (by repeat (first | (with_reducible first | exact HB.out | apply below_alloc | apply pw_below_drewN | apply below_drew1 | refine below_set ?_ GE154.out) | exact HB.out))) : w.heap.size ≤ gb155)); have n4_ := Aside0.mk ((by rw [hg]; exact (below_size (by repeat (first | (with_reducible first | exact HB.out | apply below_alloc | apply pw_below_drewN | apply below_drew1 | refine below_set ?_ GE154.out) | exact HB.out))) : w.heap.size ≤ gb155)); have n5_ := Aside0.mk ((by rw [hg]; exact Nat.ne_of_lt (blk_lt (g := gb154) (o := .cells #[.slice A0_0 l0_0.length c0_0] 40 (0, 0)) (by (with_reducible repeat (first | refine blk_drewN ?_ _ | refine blk_drew ?_ | refine blk_alloc ?_ _)); exact BK154.out)) : gb154 ≠ gb155)); have n6_ := Aside0.mk ((by rw [hg]; exact Nat.ne_of_gt (blk_lt (g := gb154) (o := .cells #[.slice A0_0 l0_0.length c0_0] 40 (0, 0)) (by (with_reducible repeat (first | refine blk_drewN ?_ _ | refine blk_drew ?_ | refine blk_alloc ?_ _)); exact BK154.out)) : gb155 ≠ gb154)); clear BK154; clear HB; have BK154 := n0_; have HB := n1_; have BK155 := n2_; have GW155 := n3_; have GE155 := n4_; have NB154_155 := n5_; have NB155_154 := n6_; clear n0_ n1_ n2_ n3_ n4_ n5_ n6_; clear hb hbox hg; have hnb12 := NB154_155.out; have hnc12 := NB155_154.out; have hcz13_0 : w11.cell? ⟨gb154, 0, none⟩ = some (.slice A0_0 l0_0.length c0_0) := (blk_cell BK154.out 0).trans rfl; have hfz13_0 := blk_frozen BK154.out 0; have hcz14_0 : w11.cell? ⟨gb155, 0, none⟩ = some (.slice A1_0 l1_0.length c1_0) := (blk_cell BK155.out 0).trans rfl; have hfz14_0 := blk_frozen BK155.out 0) | ((with_reducible refine gate_callee (f := 22) rfl ?_); refine goesL_ (some 9) rfl rfl Tryd.func22 (by kernel_rfl) rfl #[.slice A0_0 l0_0.length c0_0, .slice A1_0 l1_0.length c1_0] rfl (by (try simp only [List.map_toArray, List.map_cons, List.map_nil]); first | done | rfl | (simp only [List.length_drop, List.length_take]; rfl)) ?_; (with_reducible refine (laws_eqStringS.calls k _ _ l0_0 _ _ l1_0 false _ ?side1 ?side2 ?side3 ?side4 A3.out).mono ?_); (case side1 => repeat (first | exact (Kd.C_below HR0_0.out HB.out) | (with_reducible refine Kd.C_alloc ?_ _) | (with_reducible refine Kd.C_drewN ?_ _) | (with_reducible refine Kd.C_drew ?_))); (case side2 => exact HC0_0.out); (case side3 => repeat (first | exact (Kd.C_below HR1_0.out HB.out) | (with_reducible refine Kd.C_alloc ?_ _) | (with_reducible refine Kd.C_drewN ?_ _) | (with_reducible refine Kd.C_drew ?_))); (case side4 => exact HC1_0.out); rintro e w' ⟨rfl, ⟨nd, rfl⟩⟩; refine ⟨_, rfl, ?_⟩))
  go_ret
  exact ⟨by first | rfl | (simp [errW_none, errW_some] <;> rfl) | (simp [*, errW_none, errW_some] <;> rfl), by repeat (first | (with_reducible first | exact HB.out | apply below_alloc | apply pw_below_drewN | apply below_drew1 | refine below_set ?_ GE154.out | refine below_set ?_ GE155.out) | exact HB.out)⟩

end Go.Proofs.YtpjdlobkeafacaaDoor.PIsUndone
