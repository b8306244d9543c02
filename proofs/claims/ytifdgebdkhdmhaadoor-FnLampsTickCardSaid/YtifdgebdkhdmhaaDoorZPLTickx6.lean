-- PRINTED by drive.py (a program of this session's, over the kit's print.py; wip/tools/drive.py). Lean checks it.
import Derived.Test.YtifdgebdkhdmhaaDoorZSq
import Derived.Test.YtifdgebdkhdmhaaDoorZPLTickx0
import Derived.Test.YtifdgebdkhdmhaaDoorZPLTickx1
import Derived.Test.YtifdgebdkhdmhaaDoorZPLTickx2
import Derived.Test.YtifdgebdkhdmhaaDoorZPLTickx3
import Derived.Test.YtifdgebdkhdmhaaDoorZPLTickx5
namespace Go.Proofs.YtifdgebdkhdmhaaDoor.PLTick
open Go.RowKit Go.Proofs.YtifdgebdkhdmhaaDoorW.PrintWords Go.Proofs.YtifdgebdkhdmhaaDoorW.PrintLast Go.Proofs.YtifdgebdkhdmhaaDoorW.PrintMore
attribute [local go_sem] max2_int min2_int max_two min_two max_three min_three max_four min_four   -- for this text's walks alone
set_option linter.unusedVariables false
set_option linter.unusedSimpArgs false

/-! ### impl_CycleOfLamps: function 33 -/
-- by hand (wip/ext/Cycle.tpl)
set_option maxHeartbeats 1000000 in
set_option maxRecDepth 100000 in
/-- slices.Min over texts that a slice has. -/
theorem cyMin (b off c : Nat) (l : List ByteArray) (w : World) (hr : Kd.C Kd.string w (some ⟨b, off, none⟩) l.length l) (hp : 0 < l.length) :
    Calls Tryd.prog 121 #[.slice (some ⟨b, off, none⟩) l.length c] w fun e w' => e = .returned (.string (Lib.minOfS l)) ∧ w' = w := by
  have hmx : ∀ (w : World) (x y : ByteArray), (Builtin.min2 (.string x) (.string y)).run Tryd.prog w = .ok (.string (Lib.minS x y)) w := fun w x y => by
    have h := Lib.run_min_strs (P := Tryd.prog) w #[] 0 x y
    simpa [Builtin.min_] using h
  obtain ⟨ad0, e0, h0⟩ := Kd.at_string hr 0 (by decide) (by omega)
  cases e0
  have ex0 : rdOf ByteArray.empty l 0 = l[0] := by simp [rdOf, hp]
  rw [ex0] at h0
  have hl63 := hr.2.1
  have HR := aM hr
  have hp1 : ¬ (l.length : Int) < 1 := by omega
  have p0 : (0 < l.length) = True := eq_true hp
  have e1 : Lib.minOfS (l.take 1) = l[0] := by
    obtain ⟨a, r, rfl⟩ : ∃ a r, l = a :: r := by cases l with | nil => simp at hp | cons a r => exact ⟨a, r, rfl⟩
    simp [Lib.minOfS, Lib.minS]
  have E1 := aM e1
  have HP := aM hp
  obtain ⟨s0, hs0⟩ : ∃ s, s = l[0] := ⟨_, rfl⟩
  rw [← hs0] at h0 E1
  go_loud (rw [show (⟨b, off, none⟩ : Addr).add (Int.toNat 0) = ⟨b, off, none⟩ from rfl] at h0)
  clear ex0 e1 hr hs0
  go_enter Tryd.func121, Tryd.ntmps121
  go_wp2
  go_loopg [3, 4] (l.length - 1) (fun gg v3 v4 w' => ∃ k : Nat, k + gg = l.length ∧ 1 ≤ k ∧ v3 = .string (Lib.minOfS (l.take k)) ∧ v4 = .int .i64 k ∧ w' = w)
  case atStart => exact ⟨1, by have := HP.out; omega, Nat.le_refl _, by rw [E1.out], rfl, rfl⟩
  case round =>
    clear h0 E1
    obtain ⟨k, hks, hk1, rfl, rfl, rfl⟩ := hrel
    by_cases hq : k < l.length
    · obtain ⟨ad, e, hx⟩ := Kd.at_string HR.out (k : Int) (by omega) (by omega)
      cases e
      simp only [Int.toNat_natCast] at hx
      rw [show rdOf ByteArray.empty l (k : Int) = l[k] by simp [rdOf, hq]] at hx
      have hst := minOfS_take l k hq hk1
      obtain ⟨s, hs⟩ : ∃ s, s = l[k] := ⟨_, rfl⟩
      rw [← hs] at hx hst
      obtain ⟨M, hM⟩ : ∃ M, M = Lib.minOfS (l.take k) := ⟨_, rfl⟩
      rw [← hM] at hst ⊢
      have HST := aM hst
      have hk63 : k < 9223372036854775807 := by omega
      replace hx : wr.cell? ⟨b, off + k, none⟩ = some (.string s) := by have h9 := hx; simp only [Addr.add] at h9; rw [if_neg (show ¬ k = 0 by omega)] at h9; exact h9
      clear hs hst hM
      go_wp2
      go_roundg (l.length - (k + 1))
      case measure => omega
      case rel => exact ⟨k + 1, by omega, by omega, by rw [HST.out], by go_num, rfl⟩
    · have e : l.take k = l := List.take_of_length_le (by omega)
      rw [e]
      go_wp2
      go_ret
      exact ⟨rfl, rfl⟩
def cyRen : Go.Shelf.Ren := ⟨fun | 4 => 193 | n => n, fun | 22 => 22 | 25 => 9 | n => n, fun n => n⟩
theorem cyLay : Go.Proofs.Lays8.n4 Tryd.prog cyRen := {
  mixed := by kernel_rfl
  f4 := ⟨Tryd.f193.name, by kernel_rfl, Tryd.func193.trans (congrArg some (by kernel_rfl))⟩
  t0 := Tryd.underlying0
  a0 := Tryd.isAgg0
  z0 := Tryd.sizeOf0
  v0 := Tryd.zeroValue0
  t3 := Tryd.underlying3
  a3 := Tryd.isAgg3
  z3 := Tryd.sizeOf3
  v3 := Tryd.zeroValue3
  t4 := Tryd.underlying4
  a4 := Tryd.isAgg4
  z4 := Tryd.sizeOf4
  v4 := Tryd.zeroValue4
  t9 := Tryd.underlying9
  a9 := Tryd.isAgg9
  z9 := Tryd.sizeOf9
  v9 := Tryd.zeroValue9
  t20 := Tryd.underlying20
  a20 := Tryd.isAgg20
  z20 := Tryd.sizeOf20
  v20 := Tryd.zeroValue20
  t22 := Tryd.underlying22
  a22 := Tryd.isAgg22
  z22 := Tryd.sizeOf22
  v22 := Tryd.zeroValue22 }
theorem cyInfo : (Tryd.prog.info? 9).map (fun i => (i.zero, i.size, i.bytes)) = some (some (.string ⟨#[]⟩), 1, 16) := by kernel_rfl
set_option maxHeartbeats 1000000 in
/-- slices.Grow of no slice: a new row without texts. -/
theorem cyGrow (n : Nat) (w : World) (h1 : 0 < n) (h2 : n ≤ 4000) :
    Calls Tryd.prog 193 #[.slice none 0 0, .int .i64 n] w fun e w' => ∃ v : Value, e = .returned v ∧ Kd.R Kd.string 9 w' w.heap.size (fun _ => True) v [] ∧ Below w.heap.size w w' := by
  obtain ⟨i0, hi, hzz⟩ := Option.map_eq_some_iff.1 cyInfo
  simp only [Prod.mk.injEq] at hzz
  obtain ⟨hz, hs, hb⟩ := hzz
  refine (Any8.slices_Grow_grow cyLay i0 (.string ⟨#[]⟩) hi hz (by omega) none 0 0 n [] w (Nat.le_refl _) (by omega) (by rw [hb]; omega) (by omega) (by simp) (fun _ => rfl) (fun a h => by cases h)).mono ?_
  rintro e w' ⟨rfl, rfl⟩
  have hge := grownCap_ge w (0 + n) 0 (cyRen.t 25)
  have hle := grownCap_le_maxLen w (0 + n) 0 (cyRen.t 25) (by simp only [maxLen]; omega)
  refine ⟨_, rfl, ?_, (below_drew1 (Below.refl _ _)).alloc (by simp) _⟩
  refine Kd.R_of_own (xs := []) ⟨by simp [encs], .inr ⟨w.heap.size, grownCap w (0 + n) 0 (cyRen.t 25), _, rfl, Nat.le_refl _, (MapKept.heap_alloc w.drew _).1, Nat.zero_le _, hle, ?_, by simp [encs]⟩⟩ (fun _ _ => trivial)
  have e : (Value.string ⟨#[]⟩).cells.size = 1 := rfl
  simp only [Builtin.zeroCells, Array.size_append, Array.size_map, Array.size_range, e, Nat.zero_add] at hge ⊢
  simp
  omega
set_option maxHeartbeats 2000000 in
set_option maxRecDepth 100000 in
/-- slices.Concat of two rows of texts. -/
theorem cyConcat (g cc : Nat) (A1 A2 : Option Addr) (c1 c2 : Nat) (l1 l2 : List ByteArray) (w : World) (hg0 : w.cell? ⟨g, 0, none⟩ = some (.slice A1 l1.length c1)) (hg1 : w.cell? ⟨g, 1, none⟩ = some (.slice A2 l2.length c2)) (hr1 : Kd.C Kd.string w A1 l1.length l1) (hr2 : Kd.C Kd.string w A2 l2.length l2) (hp : 0 < l1.length + l2.length) (hl : l1.length + l2.length ≤ 2000) :
    Calls Tryd.prog 122 #[.slice (some ⟨g, 0, none⟩) 2 cc] w fun e w' => ∃ v : Value, e = .returned v ∧ Kd.R Kd.string 9 w' w.heap.size (fun _ => True) v (l1 ++ l2) ∧ Below w.heap.size w w' := by
  have HG0 := aM hg0
  have HG1 := aM hg1
  have HR1 := aM hr1
  have HR2 := aM hr2
  have HP := aM hp
  have b1 : l1.length ≤ 2000 := by omega
  have b2 : l2.length ≤ 2000 := by omega
  have HGR := aM (fun W => cyGrow (l1.length + l2.length) W hp (by omega))
  clear hr1 hr2 hp
  go_enter Tryd.func122, Tryd.ntmps122
  go_wp2
  go_loopg [3, 11] 2 (fun gg v3 v11 w' => ∃ k : Nat, k + gg = 2 ∧ v11 = .int .i64 k ∧ v3 = .int .i64 (if k = 0 then 0 else if k = 1 then (l1.length : Int) else (l1.length : Int) + l2.length) ∧ w' = w)
  case atStart => exact ⟨0, rfl, rfl, rfl, rfl⟩
  case round =>
    obtain ⟨k, hk, rfl, rfl, rfl⟩ := hrel
    have hk3 : k = 0 ∨ k = 1 ∨ k = 2 := by omega
    rcases hk3 with rfl | rfl | rfl
    · simp only [if_true]
      go_wp2
      go_roundg 1
      case measure => omega
      case rel => exact ⟨1, rfl, rfl, by simp, rfl⟩
    · simp only [Nat.one_ne_zero, if_false, if_true]
      go_wp2
      go_roundg 0
      case measure => omega
      case rel => exact ⟨2, rfl, rfl, by simp, rfl⟩
    · rw [if_neg (by decide), if_neg (by decide)]
      go_wp2_with (go_at_call 193; refine (HGR.out _).mono ?_; rintro e w1 ⟨v, rfl, ho, hb⟩; have HO1 := aM ho; have HB1 := aM hb; clear ho hb)
      obtain ⟨W0, hW0⟩ : ∃ W0, W0 = wr := ⟨_, rfl⟩
      subst hW0
      go_loopg [6, 27] 2 (fun gg v6 v27 w' => ∃ k : Nat, k + gg = 2 ∧ v27 = .int .i64 k ∧ Aside0 (Kd.R Kd.string 9 w' W0.heap.size (fun _ => True) v6 (if k = 0 then [] else if k = 1 then l1 else l1 ++ l2)) ∧ Aside0 (Below W0.heap.size W0 w'))
      case atStart => exact ⟨0, rfl, rfl, HO1, HB1⟩
      case round =>
        clear HO1 HB1
        obtain ⟨k, hk, rfl, HO, HB⟩ := hrel
        have hk3 : k = 0 ∨ k = 1 ∨ k = 2 := by omega
        have hg0 := (HB.out.cell (World.block_lt_of_cell? _ _ HG0.out)).trans HG0.out
        have hg1 := (HB.out.cell (World.block_lt_of_cell? _ _ HG1.out)).trans HG1.out
        have HC1 := aM (Kd.C_below HR1.out HB.out)
        have HC2 := aM (Kd.C_below HR2.out HB.out)
        rcases hk3 with rfl | rfl | rfl
        · rw [if_pos rfl] at HO
          go_wp2_with ((with_reducible refine gate_builtin (b := .append) (xs := #[.tmp 31, .tmp 32]) rfl ?_); at_builtin; refine Kd.R_append_row Value.string ByteArray.empty (w0 := W0) W0.heap.size rfl (.tmp 31) (.tmp 32) 22 9 (.string ⟨#[]⟩) 16 rfl Tryd.underlying22 cyInfo rfl (by decide) u6 [] l1 A1 l1.length c1 (fun _ => True) rfl rfl (fun _ _ => trivial) HO.out HC1.out HB.out (below_size HB.out) (by simp only [List.length_nil]; omega) ?_; intro v1 w1 ho hb hg hat; have HO1 := aM ho; have HB1 := aM hb; clear ho hb hg hat)
          go_roundg 1
          case measure => omega
          case rel => exact ⟨1, rfl, rfl, HO1, HB1⟩
        · rw [if_neg (by decide), if_pos rfl] at HO
          go_wp2_with ((with_reducible refine gate_builtin (b := .append) (xs := #[.tmp 31, .tmp 32]) rfl ?_); at_builtin; refine Kd.R_append_row Value.string ByteArray.empty (w0 := W0) W0.heap.size rfl (.tmp 31) (.tmp 32) 22 9 (.string ⟨#[]⟩) 16 rfl Tryd.underlying22 cyInfo rfl (by decide) u6 l1 l2 A2 l2.length c2 (fun _ => True) rfl rfl (fun _ _ => trivial) HO.out HC2.out HB.out (below_size HB.out) (by omega) ?_; intro v1 w1 ho hb hg hat; have HO1 := aM ho; have HB1 := aM hb; clear ho hb hg hat)
          go_roundg 0
          case measure => omega
          case rel => exact ⟨2, rfl, rfl, HO1, HB1⟩
        · rw [if_neg (by decide), if_neg (by decide)] at HO
          go_wp2
          go_ret
          exact ⟨_, rfl, HO.out, HB.out⟩
theorem addr0 (g n : Nat) : (⟨g, 0, none⟩ : Addr).add n = ⟨g, n, none⟩ := by
  simp only [Addr.add]
  by_cases h : n = 0
  · rw [if_pos h, h]
  · rw [if_neg h, Nat.zero_add]
theorem addrN (g m n : Nat) : (⟨g, m, none⟩ : Addr).add n = ⟨g, m + n, none⟩ := by
  simp only [Addr.add]
  by_cases h : n = 0
  · rw [if_pos h, h]; rfl
  · rw [if_neg h]
theorem cyIndex_ev (l : List ByteArray) (a : ByteArray) (hl : l.length ≤ 4000) (ha : a ∈ l) : Ev (fun k => slices_Index_string_string.f k l a) (idxS l a : Nat) := by
  have hlt : idxS l a < l.length := List.findIdx_lt_length.2 ⟨a, ha, by simp⟩
  have key : ∀ (n i : Nat), i + n = idxS l a → Ev (fun k => slices_Index_string_string.l0 k l a (l.length : Int) (i : Int)) ((idxS l a : Nat) : Int) := by
    intro n
    induction n with
    | zero =>
      intro i hi
      have hi' : i = idxS l a := by omega
      have hp : i < l.length := by omega
      have er : rdOf ByteArray.empty l (i : Int) = l[i] := by simp [rdOf, hp]
      have e : l[i] = a := by
        subst hi'
        have := List.findIdx_getElem (p := fun x => decide (x = a)) (xs := l) (w := hlt)
        exact of_decide_eq_true this
      refine Ev.last fun k => ?_
      rw [slices_Index_string_string.l0, if_pos (by omega), if_pos (by omega), if_pos (by omega), er, e]
      rw [if_pos (by simp)]
      rw [hi']
    | succ n ih =>
      intro i hi
      have hp : i < l.length := by omega
      have er : rdOf ByteArray.empty l (i : Int) = l[i] := by simp [rdOf, hp]
      have e : ¬ l[i] = a := by
        have := List.not_of_lt_findIdx (p := fun x => decide (x = a)) (xs := l) (i := i) (by show i < idxS l a; omega)
        simpa using this
      refine Ev.next ⟨0, fun k _ => ?_⟩ (ih (i + 1) (by omega))
      rw [slices_Index_string_string.l0, if_pos (by omega), if_pos (by omega), if_pos (by omega), er, w64 (by omega) (by omega)]
      rw [if_neg (fun h => e (ByteArray.ext (Array.toList_inj.1 (by simpa [ByteArray.toList_eq] using h)).symm))]
      rfl
  exact key (idxS l a) 0 (by omega)
theorem minOfS_mem : ∀ (l : List ByteArray), 0 < l.length → Lib.minOfS l ∈ l := by
  intro l h
  have key : ∀ (n k : Nat), k + n = l.length → 0 < k → Lib.minOfS (l.take k) ∈ l → Lib.minOfS l ∈ l := by
    intro n
    induction n with
    | zero => intro k hk _ hm; rw [List.take_of_length_le (by omega)] at hm; exact hm
    | succ n ih =>
      intro k hk h0 hm
      refine ih (k + 1) (by omega) (by omega) ?_
      rw [minOfS_take l k (by omega) h0]
      unfold Lib.minS
      split
      · exact hm
      · exact List.getElem_mem _
  refine key (l.length - 1) 1 (by omega) (by decide) ?_
  obtain ⟨a, r, rfl⟩ : ∃ a r, l = a :: r := by cases l with | nil => simp at h | cons a r => exact ⟨a, r, rfl⟩
  simp [Lib.minOfS, Lib.minS]
/-- The place of the least text. -/
def cyI (c : List ByteArray) : Nat := idxS c (Lib.minOfS c)
def cyS (c : List ByteArray) : List ByteArray := c.drop (cyI c) ++ c.take (cyI c)
theorem cyI_lt {c : List ByteArray} (h : 0 < c.length) : cyI c < c.length := List.findIdx_lt_length.2 ⟨_, minOfS_mem c h, by simp⟩
def impl_CycleOfLamps.f (l0_0 : List ByteArray) (a1 : ByteArray) : Option (List ByteArray × Bool) := (impl_Lamps_lit.f l0_0 a1).bind fun b => (if b = true then ((impl_Lamps_course.f l0_0 a1).bind fun r => (if 0 ≤ r.2 ∧ r.2 < r.1.length ∧ r.1.length ≤ 1100 then some (cyS (r.1.drop r.2.toNat), true) else none)) else some ([], false))
set_option maxHeartbeats 2000000 in
set_option maxRecDepth 100000 in
theorem impl_CycleOfLamps.calls (A0_0 : Option Addr) (c0_0 : Nat) (l0_0 : List ByteArray) (a1 : ByteArray) (r1 : List ByteArray) (r2 : Bool) (w : World) (hr0_0 : Kd.C Kd.string w A0_0 l0_0.length l0_0) (hc0_0 : l0_0.length ≤ c0_0) (h : impl_CycleOfLamps.f l0_0 a1 = some (r1, r2)) :
    Calls Tryd.prog 33 #[.agg #[.slice A0_0 l0_0.length c0_0], .string a1] w fun e w' => ∃ v0_ : Value, e = .returned (.tuple #[v0_, .bool r2]) ∧ Kd.R Kd.string 9 w' w.heap.size (fun _ => True) v0_ r1 ∧ Below w.heap.size w w' := by
  unfold impl_CycleOfLamps.f at h
  have hu := Tryd.underlying29
  have hus := Tryd.underlying9
  obtain ⟨b, hlit, h⟩ := Option.bind_eq_some_iff.mp h
  have HLI := aM (fun W (hb : Below w.heap.size w W) => impl_Lamps_lit.calls A0_0 c0_0 l0_0 a1 b W (Kd.C_below hr0_0 hb) hc0_0 hlit)
  have HB0 := aM (show Below w.heap.size w (w.alloc (.cells #[.slice A0_0 l0_0.length c0_0] 29)) from (Below.refl _ w).alloc (Nat.le_refl _) _)
  have BK0 := aM (show (w.alloc (.cells #[.slice A0_0 l0_0.length c0_0] 29)).heap[w.heap.size]? = some (.cells #[.slice A0_0 l0_0.length c0_0] 29 (0, 0)) from (MapKept.heap_alloc w _).1)
  cases b with
  | false =>
    simp only [Bool.false_eq_true, if_false, Option.some.injEq, Prod.mk.injEq] at h
    obtain ⟨rfl, rfl⟩ := h
    clear hr0_0 hlit
    go_enter Tryd.func33, Tryd.ntmps33
    go_wp2_with (go_at_call 108; refine (HLI.out _ HB0.out).mono ?_; rintro e w1 ⟨rfl, hb⟩; have HB1 := aM (below_step HB0.out hb); clear hb)
    go_ret2
    exact ⟨_, rfl, Kd.R_nil _ _ _ _ _, HB1.out⟩
  | true =>
    simp only [if_true] at h
    obtain ⟨⟨R1, R2⟩, hcr, h⟩ := Option.bind_eq_some_iff.mp h
    simp only at h
    split at h
    case isFalse => cases h
    case isTrue hall =>
    obtain ⟨hd0, hdl, h1100⟩ := hall
    simp only [Option.some.injEq, Prod.mk.injEq] at h
    obtain ⟨rfl, rfl⟩ := h
    obtain ⟨d, rfl⟩ : ∃ d : Nat, R2 = (d : Int) := ⟨R2.toNat, by omega⟩
    have hd : d < R1.length := by omega
    rw [Int.toNat_natCast]
    have HCO := aM (fun W (hb : Below w.heap.size w W) => impl_Lamps_course.calls A0_0 c0_0 l0_0 a1 R1 d W (Kd.C_below hr0_0 hb) hc0_0 hcr)
    have HD := aM hd
    have H11 := aM h1100
    have hdi : (d : Int) ≤ (R1.length : Int) := by omega
    obtain ⟨C, hC⟩ : ∃ C, C = R1.drop d := ⟨_, rfl⟩
    have hCl : C.length = R1.length - d := by rw [hC, List.length_drop]
    have hCp : 0 < C.length := by omega
    obtain ⟨KI, hKI⟩ := cyIndex_ev C (Lib.minOfS C) (by omega) (minOfS_mem C hCp)
    have HIX := aM (hKI KI (Nat.le_refl _))
    have HCE := aM hC
    have HCL := aM hCl
    have HCP := aM hCp
    rw [← hC]
    clear hr0_0 hlit hcr hd hd0 hdl h1100 hC hCl hCp hKI h
    go_enter Tryd.func33, Tryd.ntmps33
    go_wp2_with (first
      | (go_at_call 108; refine (HLI.out _ HB0.out).mono ?_; rintro e w1 ⟨rfl, hb⟩; have HB1 := aM (below_step HB0.out hb); have BK1 := aM (blk_below BK0.out hb); have hcl1 := (blk_cell BK1.out 0).trans rfl; clear hb)
      | (go_at_call 110; refine (HCO.out _ HB1.out).mono ?_; rintro e w2 ⟨v0, rfl, ho, hb⟩; have HB2 := aM (below_step HB1.out hb); obtain ⟨g, co, rfl, hg1, hg2, hg3⟩ := Kd.R_form ho (by have := HD.out; omega); have hco := (Kd.R_reads' ho).2.1; have HO := aM ho; have dco : d ≤ co := (by have := HD.out; omega); have dne : ¬ co = d := (by have := HD.out; omega); have hcc := Kd.C_drop (m := d) (Kd.R_reads' ho).2.2 (Nat.le_of_lt HD.out) hco; rw [if_neg dne] at hcc; replace hcc : Kd.C Kd.string w2 (some ((⟨g, 0, none⟩ : Addr).add (d * 1))) (R1.drop d).length (R1.drop d) := hcc; rw [Nat.mul_one, addr0, ← HCE.out] at hcc; have HCC := aM hcc; have dcl : C.length ≤ co - d := (by have := HCL.out; omega); clear hb ho hg1 hg2 hg3 hcl1 hcc)
      | (go_at_call 121; rw [← HCL.out]; refine (cyMin g d (co - d) C w2 HCC.out HCP.out).mono ?_; rintro e w3 ⟨rfl, rfl⟩)
      | (go_at_call 93; refine (slices_Index_string_string.calls KI (some ⟨g, d, none⟩) (co - d) C (Lib.minOfS C) ((cyI C : Nat) : Int) _ HCC.out dcl HIX.out).mono ?_; rintro e w4 ⟨rfl, ⟨nd, rfl⟩⟩))
    have HB3 := aM (below_step HB2.out (pw_below_drewN (Below.refl _ _) nd))
    have HC3 := aM (Kd.C_below HCC.out (pw_below_drewN (Below.refl _ _) nd))
    have HIE := aM (cyI_lt HCP.out)
    have HFIN := aM (show cyS C = C.drop (cyI C) ++ C.take (cyI C) from rfl)
    generalize w3.drewN nd = W3 at HB3 HC3 ⊢
    obtain ⟨I, hI⟩ : ∃ I, I = cyI C := ⟨_, rfl⟩
    rw [← hI] at HIE HFIN ⊢
    have i1 : I ≤ C.length := Nat.le_of_lt HIE.out
    have i2 : I ≤ co - d := by omega
    have i3 : ¬ co - d = I := by have := HIE.out; omega
    have i4 : (I : Int) ≤ (C.length : Int) := by omega
    clear hI HIX HCC HO HB2
    go_still_tail 6, (by kernel_rfl)
    change wpList _ _ _ _ _ W3.drew
    have HB4 := aM (below_drew1 HB3.out)
    have HC4 := aM (Kd.C_drew HC3.out)
    generalize W3.drew = W4 at HB4 HC4 ⊢
    clear HB3 HC3
    have hLd : (C.drop I).length = C.length - I := List.length_drop
    have hLt : (C.take I).length = I := by rw [List.length_take]; omega
    have HB5 := aM (HB4.out.alloc (below_size HB4.out) (.cells #[.slice (some ⟨g, d + I, none⟩) (C.length - I) (co - d - I), .slice (some ⟨g, d, none⟩) I (co - d)] 22))
    have HD5 := aM (show Kd.C Kd.string (W4.alloc (.cells #[.slice (some ⟨g, d + I, none⟩) (C.length - I) (co - d - I), .slice (some ⟨g, d, none⟩) I (co - d)] 22)) (some ⟨g, d + I, none⟩) (C.drop I).length (C.drop I) from by
      have h1 := Kd.C_drop (c := co - d) (m := I) HC4.out i1 dcl
      rw [if_neg i3] at h1
      replace h1 : Kd.C Kd.string W4 (some ((⟨g, d, none⟩ : Addr).add (I * 1))) (C.drop I).length (C.drop I) := h1
      rw [Nat.mul_one, addrN] at h1
      exact Kd.C_alloc h1 _)
    have HT5 := aM (Kd.C_alloc (Kd.C_take (m := I) HC4.out i1) (.cells #[.slice (some ⟨g, d + I, none⟩) (C.length - I) (co - d - I), .slice (some ⟨g, d, none⟩) I (co - d)] 22))
    have HNW := aM (MapKept.heap_alloc W4 (.cells #[.slice (some ⟨g, d + I, none⟩) (C.length - I) (co - d - I), .slice (some ⟨g, d, none⟩) I (co - d)] 22)).1
    have HCK := aM (show 0 < (C.drop I).length + (C.take I).length ∧ (C.drop I).length + (C.take I).length ≤ 2000 from by have := HCP.out; have := HCL.out; have := H11.out; omega)
    go_wp2_with (go_at_call 122; refine (cyConcat W4.heap.size 2 (some ⟨g, d + I, none⟩) (some ⟨g, d, none⟩) (co - d - I) (co - d) (C.drop I) (C.take I) _ (by rw [hLd]; exact (blk_cell HNW.out 0).trans rfl) (by rw [hLt]; exact (blk_cell HNW.out 1).trans rfl) HD5.out HT5.out HCK.out.1 HCK.out.2).mono ?_; rintro e w5 ⟨v, rfl, ho, hb⟩; have HO5 := aM (Kd.R_lower ho (below_size HB5.out)); have HB6 := aM (below_step HB5.out hb); clear ho hb)
    go_ret2
    exact ⟨_, rfl, HFIN.out ▸ HO5.out, HB6.out⟩

/-! ### spec_CycleOfLamps: function 34 -/
def spec_CycleOfLamps.l0 : Nat → List ByteArray → Int → List ByteArray → Int → Int → Option (List ByteArray × Bool)
 | 0, _, _, _, _, _ => none
 | k + 1, x8, x9, x25, x26, x27 => if x27 < x26 then (if 0 ≤ x27 then (if x27 < (x25.length : Int) then (if 0 ≤ x9 then (if x9 < (x8.length : Int) then (if (Op.bytesLess ((rdOf ByteArray.empty x25 x27).toList) ((rdOf ByteArray.empty x8 x9).toList)) = true then (spec_CycleOfLamps.l0 k x8 x27 x25 x26 (wrap64 (x27 + 1))) else (spec_CycleOfLamps.l0 k x8 x9 x25 x26 (wrap64 (x27 + 1)))) else (none)) else (none)) else (none)) else (none)) else ((some (([] : List ByteArray) : List ByteArray)).bind fun y195 => (if 0 ≤ x9 then (if x9 ≤ (x8.length : Int) then (if y195.length + (x8.drop (x9 : Int).toNat).length < 8796093022208 then ((some (y195 ++ (x8.drop (x9 : Int).toNat) : List ByteArray)).bind fun y199 => (if y199.length + (x8.take (x9 : Int).toNat).length < 8796093022208 then (some ((y199 ++ (x8.take (x9 : Int).toNat)), true)) else (none))) else (none)) else (none)) else (none)))
def spec_CycleOfLamps.f (k : Nat) (l0_0 : List ByteArray) (a1 : ByteArray) : Option (List ByteArray × Bool) := (spec_laAsked.f l0_0 a1).bind fun t184 => (if t184 = true then ((spec_laPath.f k l0_0 a1).bind fun bt185 => (if 0 ≤ bt185.2 then (if bt185.2 ≤ (bt185.1.length : Int) then ((some (bt185.1.drop (bt185.2 : Int).toNat : List ByteArray)).bind fun y189 => (spec_CycleOfLamps.l0 k y189 0 y189 (y189.length : Int) 0)) else (none)) else (none))) else (some (([] : List ByteArray), false)))
theorem spec_CycleOfLamps.mono_l : ∀ k, (∀ y0 y1 y2 y3 y4, LeO (spec_CycleOfLamps.l0 k y0 y1 y2 y3 y4) (spec_CycleOfLamps.l0 (k + 1) y0 y1 y2 y3 y4))
 | 0 => fun _ _ _ _ _ r h => by simp [spec_CycleOfLamps.l0] at h
 | k + 1 => by
  have ih0 := spec_CycleOfLamps.mono_l k
  ·intro y0 y1 y2 y3 y4
   unfold spec_CycleOfLamps.l0
   repeat' first
   | wE ih0 _ _ _ _ _
   | wE spec_laPath.mono _ _ _
   | wE LeO.refl _
   | wE LeO.none _
   | wR LeO.ite ?_ ?_
   | wR LeO.bind ?_ (fun _ => ?_)
   | exact ih0 _ _ _ _ _
   | exact spec_laPath.mono _ _ _
   | exact LeO.none _
   | refine LeO.ite ?_ ?_
   | refine LeO.bind ?_ (fun _ => ?_)
theorem spec_CycleOfLamps.mono : ∀ a0 a1 k, LeO (spec_CycleOfLamps.f k a0 a1) (spec_CycleOfLamps.f (k + 1) a0 a1) := by
 intro a0 a1 k
 have ih0 := spec_CycleOfLamps.mono_l k
 unfold spec_CycleOfLamps.f
 repeat' first
   | wE ih0 _ _ _ _ _
   | wE spec_laPath.mono _ _ _
   | wE LeO.refl _
   | wE LeO.none _
   | wR LeO.ite ?_ ?_
   | wR LeO.bind ?_ (fun _ => ?_)
   | exact ih0 _ _ _ _ _
   | exact spec_laPath.mono _ _ _
   | exact LeO.none _
   | refine LeO.ite ?_ ?_
   | refine LeO.bind ?_ (fun _ => ?_)
def spec_CycleOfLamps.T12 : Bool × List (List Nat × List Nat) := (true, [([], []), ([], []), ([], []), ([1, 2], [1, 2]), ([0, 3], [0, 3]), ([], []), ([], []), ([5, 6], [5, 6]), ([4, 7, 4], [4, 7]), ([8, 8, 0, 1, 2, 3, 4, 5, 6, 7, 8], [8]), ([9, 0, 1, 2, 3, 4, 5, 6, 7, 8, 9], [])])
def spec_CycleOfLamps.B12 : List Nat := [0, 0, 0, 6, 15, 0, 0, 96, 255, 511, 1023]
theorem spec_CycleOfLamps.tab12 : rtab .any (opsOf Tryd.f34 12) = spec_CycleOfLamps.T12 := by kernel_rfl
theorem spec_CycleOfLamps.bits12 : waitsOk spec_CycleOfLamps.T12.2 spec_CycleOfLamps.B12 = true := by kernel_rfl
set_option maxHeartbeats 8000000 in
set_option maxRecDepth 100000 in
theorem spec_CycleOfLamps.calls (k : Nat) (A0_0 : Option Addr) (c0_0 : Nat) (l0_0 : List ByteArray) (a1 : ByteArray) (r1 : List ByteArray) (r2 : Bool) (w : World) (hr0_0 : Kd.C Kd.string w A0_0 l0_0.length l0_0) (hc0_0 : l0_0.length ≤ c0_0) (h : spec_CycleOfLamps.f k l0_0 a1 = some (r1, r2)) :
  Calls Tryd.prog 34 #[.agg #[.slice A0_0 l0_0.length c0_0], .string a1] w fun e w' => ∃ v0_ : Value, e = .returned (.tuple #[v0_, .bool r2]) ∧ Kd.R Kd.string 9 w' w.heap.size (fun _ => True) v0_ r1 ∧ Below w.heap.size w w' := by
 have hu29 := Tryd.underlying29
 have HR0_0 := aM hr0_0
 have HC0_0 := aM hc0_0
 clear hr0_0 hc0_0
 have HB := aM (Below.refl w.heap.size w)
 have H : ((spec_laAsked.f l0_0 a1).bind fun t184 => (if t184 = true then ((spec_laPath.f k l0_0 a1).bind fun bt185 => (if 0 ≤ bt185.2 then (if bt185.2 ≤ (bt185.1.length : Int) then ((some (bt185.1.drop (bt185.2 : Int).toNat : List ByteArray)).bind fun y189 => (spec_CycleOfLamps.l0 k y189 0 y189 (y189.length : Int) 0)) else (none)) else (none))) else (some (([] : List ByteArray), false)))) = some (r1, r2) := h
 clear h
 replace H := Option.bind_eq_some_iff.mp H
 obtain ⟨t184, A30, H⟩ := H
 replace H : (if t184 = true then ((spec_laPath.f k l0_0 a1).bind fun bt185 => (if 0 ≤ bt185.2 then (if bt185.2 ≤ (bt185.1.length : Int) then ((some (bt185.1.drop (bt185.2 : Int).toNat : List ByteArray)).bind fun y189 => (spec_CycleOfLamps.l0 k y189 0 y189 (y189.length : Int) 0)) else (none)) else (none))) else (some (([] : List ByteArray), false))) = some (r1, r2) := H
 have A3 := aM A30
 clear A30
 by_cases c4 : t184 = true
 ·subst c4
  rw [if_pos rfl] at H
  replace H := Option.bind_eq_some_iff.mp H
  obtain ⟨⟨t185, t188⟩, A50, H⟩ := H
  dsimp only at H
  have A5 := aM A50
  clear A50
  by_cases c6 : 0 ≤ t188
  ·rw [if_pos c6] at H
   have c6b0 := eq_true c6
   have c6b1 : decide (0 ≤ t188) = true := decide_eq_true c6
   clear c6
   by_cases c7 : t188 ≤ (t185.length : Int)
   ·rw [if_pos c7] at H
    have c7b0 := eq_true c7
    have c7b1 : decide (t188 ≤ (t185.length : Int)) = true := decide_eq_true c7
    clear c7
    obtain ⟨y189, hy189⟩ : ∃ y_ : List ByteArray, y_ = (t185.drop (t188 : Int).toNat) := ⟨_, rfl⟩
    replace H : (spec_CycleOfLamps.l0 k y189 0 y189 (y189.length : Int) 0) = some (r1, r2) := by fH hy189
    have Ny189 := aM hy189
    clear hy189
    have H' := aM H
    clear H
    go_enter Tryd.func34, Tryd.ntmps34
    go_wp2_with (first | ((with_reducible refine gate_dst (N := 2) rfl ?_); refine box_event ?hg (N := 2) ?hd (cs := #[.slice A0_0 l0_0.length c0_0]) (t := 29) ?hr ?_; (case hd => rfl); (case hg => rfl); (case hr => first | (go_simp; done) | (go_simp; rfl)); intro gb183 hg w8 hbox hb; have n0_ := aM (below_step (by bB) hb); have n1_ := aM (hbox); have n2_ := aM ((by rw [hg]; exact (below_size (by bB)) : w.heap.size ≤ gb183)); have n3_ := aM ((by rw [hg]; exact (below_size (by bB)) : w.heap.size ≤ gb183)); clear HB; have HB := n0_; have BK183 := n1_; have GW183 := n2_; have GE183 := n3_; clear n0_ n1_ n2_ n3_; clear hb hbox hg; have hcz9_0 : w8.cell? ⟨gb183, 0, none⟩ = some (.slice A0_0 l0_0.length c0_0) := (blk_cell BK183.out 0).trans rfl; have hfz9_0 := blk_frozen BK183.out 0) | ((with_reducible refine gate_callee (f := 112) rfl ?_); refine goesL_ (some 14) rfl rfl Tryd.func112 (by kernel_rfl) rfl #[.agg #[.slice A0_0 l0_0.length c0_0], .string a1] rfl (by mA) ?_; (with_reducible refine (spec_laAsked.calls _ _ l0_0 a1 true _ ?side1 ?side2 A3.out).mono ?_); (case side1 => cC ((Kd.C_below HR0_0.out HB.out))); (case side2 => exact HC0_0.out); rintro e w10 ⟨rfl, hb⟩; refine ⟨_, rfl, ?_⟩; have n0_ := aM (blk_below (g := gb183) (o := .cells #[.slice A0_0 l0_0.length c0_0] 29 (0, 0)) (by (with_reducible repeat (first | refine blk_drewN ?_ _ | refine blk_drew ?_ | refine blk_alloc ?_ _)); exact BK183.out) hb); have n1_ := aM (below_step (by repeat (first | (with_reducible first | exact HB.out | apply below_alloc | apply pw_below_drewN | apply below_drew1 | refine below_set ?_ GE183.out) | exact HB.out)) hb); clear BK183; clear HB; have BK183 := n0_; have HB := n1_; clear n0_ n1_; cX; have hcz11_0 : w10.cell? ⟨gb183, 0, none⟩ = some (.slice A0_0 l0_0.length c0_0) := (blk_cell BK183.out 0).trans rfl; have hfz11_0 := blk_frozen BK183.out 0) | ((with_reducible refine gate_callee (f := 114) rfl ?_); refine goesL_ (some 19) rfl rfl Tryd.func114 (by kernel_rfl) rfl #[.agg #[.slice A0_0 l0_0.length c0_0], .string a1] rfl (by mA) ?_; (with_reducible refine (spec_laPath.calls k _ _ l0_0 a1 t185 t188 _ ?side1 ?side2 A5.out).mono ?_); (case side1 => cC ((Kd.C_below HR0_0.out HB.out))); (case side2 => exact HC0_0.out); rintro e w12 ⟨v186, rfl, ho0, hb⟩; refine ⟨_, rfl, ?_⟩; have n0_ := aM (Kd.R_lower ho0 (below_size (by repeat (first | (with_reducible first | exact HB.out | apply below_alloc | apply pw_below_drewN | apply below_drew1 | refine below_set ?_ GE183.out) | exact HB.out)))); have n1_ := aM (blk_below (g := gb183) (o := .cells #[.slice A0_0 l0_0.length c0_0] 29 (0, 0)) (by (with_reducible repeat (first | refine blk_drewN ?_ _ | refine blk_drew ?_ | refine blk_alloc ?_ _)); exact BK183.out) hb); have n2_ := aM (below_step (by repeat (first | (with_reducible first | exact HB.out | apply below_alloc | apply pw_below_drewN | apply below_drew1 | refine below_set ?_ GE183.out) | exact HB.out)) hb); clear BK183; clear HB; have HO187 := n0_; have BK183 := n1_; have HB := n2_; clear n0_ n1_ n2_; cX; (try clear ho0); obtain ⟨Ao14, co14, eo14⟩ := Kd.R_slice HO187.out; subst eo14; have q13 : (t188 : Int) ≤ ((t185.length : Int) : Int) := of_decide_eq_true (by first | (with_reducible assumption) | assumption); obtain ⟨i013, hi013, _, hsz13, _⟩ := info_parts info9; have hroom13 : t185.length ≤ co14 := (Kd.R_reads' HO187.out).2.1; have hC13 : Kd.C Kd.string _ Ao14 t185.length t185 := (Kd.R_reads' HO187.out).2.2; have q013 : (0 : Int) ≤ (t188 : Int) := of_decide_eq_true (by first | (with_reducible assumption) | assumption); have hcut13 := cut_from (P := Tryd.prog) 22 9 .i64 Tryd.underlying22 hi013 1 hsz13 Ao14 t185.length co14 t188 q013 q13; have hr13 := Kd.C_drop (m := (t188 : Int).toNat) (c := co14) hC13 (by omega) hroom13; obtain ⟨A13, hA13⟩ : ∃ A1, A1 = (if co14 = (t188 : Int).toNat then Ao14 else (Ao14 : Option Addr).map (·.add ((t188 : Int).toNat * 1))) := ⟨_, rfl⟩; obtain ⟨c13, hc13⟩ : ∃ c1, c1 = co14 - (t188 : Int).toNat := ⟨_, rfl⟩; have hy13 : y189.length = t185.length - (t188 : Int).toNat := (by rw [Ny189.out, List.length_drop] <;> omega); rw [show (t185).drop (t188 : Int).toNat = y189 from Ny189.out.symm] at hr13; replace hr13 : Kd.C Kd.string _ A13 y189.length y189 := (by rw [hA13]; exact hr13); rw [← hy13, ← hA13, ← hc13] at hcut13; have HR192 := aM hr13; have HC192 := aM (show y189.length ≤ c13 from by rw [hy13, hc13]; exact Nat.sub_le_sub_right hroom13 _); clear hr13 hC13 hroom13 hi013 hsz13 hc13; have KY13 := aM hy13; have KA13 := aM hA13; clear hy13 hA13; have KL13 := aM (show (t188 : Int).toNat ≤ t185.length from by omega); replace q13 := eq_true q13))
    go_loopg [9, 27] k (fun kq v9 v27 w' => ∃ (x9_1 : Int) (x27_1 : Int), v9 = .int .i64 x9_1 ∧ v27 = .int .i64 x27_1 ∧ Aside0 (spec_CycleOfLamps.l0 kq y189 x9_1 y189 (y189.length : Int) x27_1 = some (r1, r2)) ∧ Aside0 (kq ≤ k) ∧ Aside0 (w'.heap[gb183]? = some (.cells #[(.slice A0_0 l0_0.length c0_0)] 29 (0, 0))) ∧ Aside0 (Kd.C Kd.string w' A13 y189.length y189) ∧ Aside0 (Below w.heap.size w w'))
    case atStart => exact ⟨(0), (0), (by rF), (by rF), H', ⟨Nat.le_refl _⟩, ⟨by (with_reducible repeat (first | refine blk_drewN ?_ _ | refine blk_drew ?_ | refine blk_alloc ?_ _)); exact BK183.out⟩, ⟨by repeat (first | (with_reducible exact HR192.out) | (with_reducible refine Kd.C_alloc ?_ _) | (with_reducible refine Kd.C_drewN ?_ _) | (with_reducible refine Kd.C_drew ?_) | exact HR192.out)⟩, ⟨by repeat (first | (with_reducible first | exact HB.out | apply below_alloc | apply pw_below_drewN | apply below_drew1 | refine below_set ?_ GE183.out) | exact HB.out)⟩⟩
    case round =>
     clear H'
     try clear c1
     try clear q1
     try clear p2
     try clear c3
     try clear c4
     try clear c6
     try clear c6b0
     try clear c6b1
     try clear c7
     try clear c7b0
     try clear c7b1
     try clear c11
     try clear c13
     try clear q13
     try clear hcz11_0
     try clear hcz9_0
     try clear hfz11_0
     try clear hfz9_0
     try clear q013
     try clear q13
     obtain ⟨x9_1, x27_1, rfl, rfl, HA, HK1, BK183, HR192, HB⟩ := hrel
     cases gk with
     | zero => exact absurd HA.out (by simp [spec_CycleOfLamps.l0])
     | succ k1 =>
      have H := HA.out
      clear HA
      simp only [spec_CycleOfLamps.l0] at H
      by_cases c15 : x27_1 < (y189.length : Int)
      ·rw [if_pos c15] at H
       have c15b0 : decide (x27_1 < (y189.length : Int)) = true := decide_eq_true c15
       clear c15
       by_cases c16 : 0 ≤ x27_1
       ·rw [if_pos c16] at H
        have c16b0 : decide (0 ≤ x27_1) = true := decide_eq_true c16
        clear c16
        by_cases c17 : x27_1 < (y189.length : Int)
        ·rw [if_pos c17] at H
         have c17b0 : decide (x27_1 < (y189.length : Int)) = true := decide_eq_true c17
         clear c17
         by_cases c18 : 0 ≤ x9_1
         ·rw [if_pos c18] at H
          have c18b0 : decide (0 ≤ x9_1) = true := decide_eq_true c18
          clear c18
          by_cases c19 : x9_1 < (y189.length : Int)
          ·rw [if_pos c19] at H
           have c19b0 : decide (x9_1 < (y189.length : Int)) = true := decide_eq_true c19
           clear c19
           by_cases c20 : (Op.bytesLess ((rdOf ByteArray.empty y189 x27_1).toList) ((rdOf ByteArray.empty y189 x9_1).toList)) = true
           ·rw [if_pos c20] at H
            have c20b0 : (Op.bytesLess ((rdOf ByteArray.empty y189 x27_1).toList) ((rdOf ByteArray.empty y189 x9_1).toList)) = true := c20
            clear c20
            have H' := aM H
            clear H
            have p193 : 0 ≤ (x27_1 : Int) := of_decide_eq_true (by first | (with_reducible assumption) | assumption)
            have q193 : x27_1 < (y189.length : Int) := of_decide_eq_true (by first | (with_reducible assumption) | assumption)
            obtain ⟨ad193, e193, hx193_0⟩ := Kd.at_string HR192.out x27_1 p193 q193
            cases e193
            replace p193 := eq_true p193
            replace q193 := eq_true q193
            have p194 : 0 ≤ (x9_1 : Int) := of_decide_eq_true (by first | (with_reducible assumption) | assumption)
            have q194 : x9_1 < (y189.length : Int) := of_decide_eq_true (by first | (with_reducible assumption) | assumption)
            obtain ⟨ad194, e194, hx194_0⟩ := Kd.at_string HR192.out x9_1 p194 q194
            obtain rfl : ad193 = ad194 := (by injection e194)
            replace p194 := eq_true p194
            replace q194 := eq_true q194
            go_wp2
            go_roundg k1
            case measure => mO
            case rel => exact ⟨(x27_1), (wrap64 (x27_1 + 1)), (by rF), (by rF), H', ⟨by mO⟩, ⟨by (with_reducible repeat (first | refine blk_drewN ?_ _ | refine blk_drew ?_ | refine blk_alloc ?_ _)); exact BK183.out⟩, ⟨by repeat (first | (with_reducible exact HR192.out) | (with_reducible refine Kd.C_alloc ?_ _) | (with_reducible refine Kd.C_drewN ?_ _) | (with_reducible refine Kd.C_drew ?_) | exact HR192.out)⟩, ⟨by repeat (first | (with_reducible first | exact HB.out | apply below_alloc | apply pw_below_drewN | apply below_drew1 | refine below_set ?_ GE183.out) | exact HB.out)⟩⟩
           ·rw [if_neg c20] at H
            have c20b0 : (Op.bytesLess ((rdOf ByteArray.empty y189 x27_1).toList) ((rdOf ByteArray.empty y189 x9_1).toList)) = false := by simpa using c20
            clear c20
            have H' := aM H
            clear H
            have p193 : 0 ≤ (x27_1 : Int) := of_decide_eq_true (by first | (with_reducible assumption) | assumption)
            have q193 : x27_1 < (y189.length : Int) := of_decide_eq_true (by first | (with_reducible assumption) | assumption)
            obtain ⟨ad193, e193, hx193_0⟩ := Kd.at_string HR192.out x27_1 p193 q193
            cases e193
            replace p193 := eq_true p193
            replace q193 := eq_true q193
            have p194 : 0 ≤ (x9_1 : Int) := of_decide_eq_true (by first | (with_reducible assumption) | assumption)
            have q194 : x9_1 < (y189.length : Int) := of_decide_eq_true (by first | (with_reducible assumption) | assumption)
            obtain ⟨ad194, e194, hx194_0⟩ := Kd.at_string HR192.out x9_1 p194 q194
            obtain rfl : ad193 = ad194 := (by injection e194)
            replace p194 := eq_true p194
            replace q194 := eq_true q194
            go_wp2
            go_roundg k1
            case measure => mO
            case rel => exact ⟨(x9_1), (wrap64 (x27_1 + 1)), (by rF), (by rF), H', ⟨by mO⟩, ⟨by (with_reducible repeat (first | refine blk_drewN ?_ _ | refine blk_drew ?_ | refine blk_alloc ?_ _)); exact BK183.out⟩, ⟨by repeat (first | (with_reducible exact HR192.out) | (with_reducible refine Kd.C_alloc ?_ _) | (with_reducible refine Kd.C_drewN ?_ _) | (with_reducible refine Kd.C_drew ?_) | exact HR192.out)⟩, ⟨by repeat (first | (with_reducible first | exact HB.out | apply below_alloc | apply pw_below_drewN | apply below_drew1 | refine below_set ?_ GE183.out) | exact HB.out)⟩⟩
          ·rw [if_neg c19] at H
           exact absurd H (by simp)
         ·rw [if_neg c18] at H
          exact absurd H (by simp)
        ·rw [if_neg c17] at H
         exact absurd H (by simp)
       ·rw [if_neg c16] at H
        exact absurd H (by simp)
      ·rw [if_neg c15] at H
       have c15b0 : decide (x27_1 < (y189.length : Int)) = false := decide_eq_false c15
       clear c15
       obtain ⟨y195, hy195⟩ : ∃ y_ : List ByteArray, y_ = (([] : List ByteArray)) := ⟨_, rfl⟩
       replace H : (if 0 ≤ x9_1 then (if x9_1 ≤ (y189.length : Int) then (if y195.length + (y189.drop (x9_1 : Int).toNat).length < 8796093022208 then ((some (y195 ++ (y189.drop (x9_1 : Int).toNat) : List ByteArray)).bind fun y199 => (if y199.length + (y189.take (x9_1 : Int).toNat).length < 8796093022208 then (some ((y199 ++ (y189.take (x9_1 : Int).toNat)), true)) else (none))) else (none)) else (none)) else (none)) = some (r1, r2) := by fH hy195
       have Ny195 := aM hy195
       clear hy195
       by_cases c21 : 0 ≤ x9_1
       ·rw [if_pos c21] at H
        have c21b0 := eq_true c21
        have c21b1 : decide (0 ≤ x9_1) = true := decide_eq_true c21
        clear c21
        by_cases c22 : x9_1 ≤ (y189.length : Int)
        ·rw [if_pos c22] at H
         have c22b0 := eq_true c22
         have c22b1 : decide (x9_1 ≤ (y189.length : Int)) = true := decide_eq_true c22
         clear c22
         by_cases c23 : y195.length + (y189.drop (x9_1 : Int).toNat).length < 8796093022208
         ·rw [if_pos c23] at H
          have LMc23 := aM c23
          clear c23
          obtain ⟨y199, hy199⟩ : ∃ y_ : List ByteArray, y_ = (y195 ++ (y189.drop (x9_1 : Int).toNat)) := ⟨_, rfl⟩
          replace H : (if y199.length + (y189.take (x9_1 : Int).toNat).length < 8796093022208 then (some ((y199 ++ (y189.take (x9_1 : Int).toNat)), true)) else (none)) = some (r1, r2) := by fH hy199
          have Ny199 := aM hy199
          clear hy199
          have c24b0 := eq_true (of_decide_eq_true (by first | (with_reducible assumption) | assumption) : 0 ≤ x9_1)
          have c25b0 := eq_true (of_decide_eq_true (by first | (with_reducible assumption) | assumption) : x9_1 ≤ (y189.length : Int))
          by_cases c26 : y199.length + (y189.take (x9_1 : Int).toNat).length < 8796093022208
          ·rw [if_pos c26] at H
           have LMc26 := aM c26
           clear c26
           obtain ⟨y203, hy203⟩ : ∃ y_ : List ByteArray, y_ = (y199 ++ (y189.take (x9_1 : Int).toNat)) := ⟨_, rfl⟩
           replace H : (some (y203, true)) = some (r1, r2) := by fH hy203
           have Ny203 := aM hy203
           clear hy203
           simp only [Option.some.injEq, Prod.mk.injEq] at H
           obtain ⟨rfl, rfl⟩ := H
           try go_wp2
           have n0_ := aM (blk_drew BK183.out)
           have n1_ := aM (Kd.C_drew HR192.out)
           have n2_ := aM (below_drew1 HB.out)
           clear BK183
           clear HR192
           clear HB
           have BK183 := n0_
           have HR192 := n1_
           have HB := n2_
           clear n0_ n1_ n2_
           obtain ⟨i028, hi028, _, hsz28, _⟩ := info_parts info9
           obtain ⟨A28, hcut28, hA28, hC28⟩ := print_drop_of (P := Tryd.prog) Value.string (⟨#[]⟩ : ByteArray) 22 9 .i64 Tryd.underlying22 hi028 hsz28 A13 c13 y189 x9_1 (of_decide_eq_true (by first | (with_reducible assumption) | assumption)) (of_decide_eq_true (by first | (with_reducible assumption) | assumption)) HC192.out
           have HR198 := aM (Kd.C_of_reads (h1 := fun _ => rfl) (hA28 _ (Kd.reads_of_C HR192.out)))
           have HC198 := aM hC28
           clear hA28 hC28 hi028 hsz28
           obtain ⟨i029, hi029, _, hsz29, _⟩ := info_parts info9
           obtain ⟨hcut29, hA29, hC29⟩ := print_take_of (P := Tryd.prog) Value.string (⟨#[]⟩ : ByteArray) 22 9 .i64 Tryd.underlying22 hi029 hsz29 A13 c13 y189 x9_1 (of_decide_eq_true (by first | (with_reducible assumption) | assumption)) (of_decide_eq_true (by first | (with_reducible assumption) | assumption)) HC192.out
           have HR202 := aM (Kd.C_of_reads (h1 := fun _ => rfl) (hA29 _ (Kd.reads_of_C HR192.out)))
           have HC202 := aM hC29
           clear hA29 hC29 hi029 hsz29
           refine start_ (n := 11) (S := fun w' => True) (ds := []) #[false, false, false, false, false, false, false, false, false, false, false] (by kernel_rfl) rfl rfl trivial (fun hHeld => ?_); refine with_tabW spec_CycleOfLamps.tab12 spec_CycleOfLamps.bits12 (fun HT_ HW_ => ?_)
           generalize wr.drew = w27 at BK183 HR192 HB HR198 HR202 hHeld ⊢
           have HB00 := HB
           have HBa := aM (Below.refl w27.heap.size w27)
           pU 1 (some 41) #[false, true, false, false, false, false, false, false, false, false, false]
           rotate_left
           ·intro w'
            go_simp
            with_reducible rfl
           rotate_left
           ·simp only [Act.put, List.setIfInBounds_toArray, List.set_cons_zero, List.set_cons_succ, i64_w, i32_w]
            rfl
           pU 2 (some 42) #[false, true, true, false, false, false, false, false, false, false, false]
           rotate_left
           ·intro w'
            go_simp
            with_reducible rfl
           rotate_left
           ·simp only [Act.put, List.setIfInBounds_toArray, List.set_cons_zero, List.set_cons_succ, i64_w, i32_w]
            rfl
           pU 3 (some 43) #[false, true, true, true, false, false, false, false, false, false, false]
           rotate_left
           ·intro w'
            go_simp
            with_reducible rfl
           rotate_left
           ·simp only [Act.put, List.setIfInBounds_toArray, List.set_cons_zero, List.set_cons_succ, i64_w, i32_w]
            rfl
           pU 5 (some 45) #[false, true, true, true, false, true, false, false, false, false, false]
           rotate_left
           ·intro w'
            go_simp
            with_reducible rfl
           rotate_left
           ·simp only [Act.put, List.setIfInBounds_toArray, List.set_cons_zero, List.set_cons_succ, i64_w, i32_w]
            rfl
           pU 6 (some 46) #[false, true, true, true, false, true, true, false, false, false, false]
           rotate_left
           ·intro w'
            go_simp
            with_reducible rfl
           rotate_left
           ·simp only [Act.put, List.setIfInBounds_toArray, List.set_cons_zero, List.set_cons_succ, i64_w, i32_w]
            rfl
           pU 7 (some 47) #[false, true, true, true, false, true, true, true, false, false, false]
           rotate_left
           ·intro w'
            go_simp
            with_reducible rfl
           rotate_left
           ·simp only [Act.put, List.setIfInBounds_toArray, List.set_cons_zero, List.set_cons_succ, i64_w, i32_w]
            rfl
           refine one_ (i := 0) (N := some 40) #[true, true, true, true, false, true, true, true, false, false, false] rfl rfl (one_of HT_.out (by kernel_rfl)) (by decide) (fun K hK => ?_)
           refine Kd.R_lit_step Kd.string _ 9 ?hg (N := 40) ?hd (xs := ([] : List ByteArray)) (inner := []) (ok := fun _ => True) (okp := fun _ => True) ?hr ?hp (fun _ hk => hk) trivial (Below.refl _ _) (Nat.le_refl _) (by simp) ?_; (case hd => rfl); (case hg => rfl); (case hr => first | (go_simp; done) | (go_simp; rfl)); (case hp => exact (Reps.none _ _))
           intro v196 w30 ho31 hb hg_ hnew_
           clear hg_ hnew_
           (first | rw [← Ny195.out] at ho31 | (simp only [Int.reduceToNat] at ho31; rw [← Ny195.out] at ho31))
           have n0_ := aM ho31
           have HBa := aM hb
           have n1_ := aM (blk_below (g := gb183) (o := .cells #[.slice A0_0 l0_0.length c0_0] 29 (0, 0)) (by (with_reducible repeat (first | refine blk_drewN ?_ _ | refine blk_drew ?_ | refine blk_alloc ?_ _)); exact BK183.out) hb)
           have n2_ := aM (Kd.C_below (by repeat (first | (with_reducible exact HR192.out) | (with_reducible refine Kd.C_alloc ?_ _) | (with_reducible refine Kd.C_drewN ?_ _) | (with_reducible refine Kd.C_drew ?_) | exact HR192.out)) hb)
           have n3_ := aM (below_step (by repeat (first | (with_reducible first | exact HB.out | apply below_alloc | apply pw_below_drewN | apply below_drew1 | refine below_set ?_ GE183.out) | exact HB.out)) hb)
           clear BK183
           clear HR192
           clear HB
           have HO197 := n0_
           have BK183 := n1_
           have HR192 := n2_
           have HB := n3_
           clear n0_ n1_ n2_ n3_
           clear hb ho31
           refine hK.out _ _ trivial (fun hHeld => ?_)
           clear hK K
           refine norm_ (a' := ?_) ?_ ?_
           rotate_left
           ·show Act.put _ (some 40) _ = _
            simp only [Act.put, List.setIfInBounds_toArray, List.set_cons_zero, List.set_cons_succ, i64_w, i32_w]
            rfl
           refine one_ (i := 4) (N := some 44) #[true, true, true, true, true, true, true, true, false, false, false] rfl rfl (one_of HT_.out (by kernel_rfl)) (by decide) (fun K hK => ?_)
           refine Kd.R_append_rows_step Kd.string (w0 := w27) w27.heap.size (by rfl) (.tmp 40) (.tmp 43) 22 9 (.string ⟨#[]⟩) 16 rfl Tryd.underlying22 info9 rfl (by decide) (by omega) v196 y195 (y189.drop (x9_1 : Int).toNat) _ _ _ (fun _ => True) (fun _ => False) rfl rfl ?aO ?aR (fun _ _ h => h) (fun _ h => h.elim) ?aF ?aB ?aS ?aL ?_
           (case aR => first | (rw [← show (y189.drop (x9_1 : Int).toNat).length = (y189.length - x9_1.toNat) from List.length_drop]; cC ((Kd.C_below HR198.out HBa.out))) | (cC ((Kd.C_below HR198.out HBa.out))))
           (case aB => exact HBa.out)
           (case aF => exact (fun _ _ => trivial))
           (case aO => exact (by (rX); exact HO197.out))
           (case aS => exact (below_size HBa.out))
           (case aL => have := LMc23.out; have hlx_ := (show (y189.drop (x9_1 : Int).toNat).length = (y189.length - x9_1.toNat) from List.length_drop); omega)
           intro v200 w32 ho hb hg hat
           rw [← Ny199.out] at ho
           have n0_ := aM (blk_grown (g := gb183) (o := .cells #[.slice A0_0 l0_0.length c0_0] 29 (0, 0)) (by (with_reducible repeat (first | refine blk_drewN ?_ _ | refine blk_drew ?_ | refine blk_alloc ?_ _)); exact BK183.out) hg (Kd.R_ne HO197.out BK183.out (by decide)))
           have n1_ := aM (below_step HB00.out hb)
           have HBa := aM hb
           have n2_ := aM (ho)
           clear BK183
           clear HB
           clear HO197
           have BK183 := n0_
           have HB := n1_
           have HO201 := n2_
           clear n0_ n1_ n2_
           clear ho hb hg hat
           refine hK.out _ _ trivial (fun hHeld => ?_)
           clear hK K
           refine norm_ (a' := ?_) ?_ ?_
           rotate_left
           ·show Act.put _ (some 44) _ = _
            simp only [Act.put, List.setIfInBounds_toArray, List.set_cons_zero, List.set_cons_succ, i64_w, i32_w]
            rfl
           refine one_ (i := 8) (N := some 48) #[true, true, true, true, true, true, true, true, true, false, false] rfl rfl (one_of HT_.out (by kernel_rfl)) (by decide) (fun K hK => ?_)
           refine Kd.R_append_rows_step Kd.string (w0 := w27) w27.heap.size (by rfl) (.tmp 44) (.tmp 47) 22 9 (.string ⟨#[]⟩) 16 rfl Tryd.underlying22 info9 rfl (by decide) (by omega) v200 y199 (y189.take (x9_1 : Int).toNat) _ _ _ (fun _ => True) (fun _ => False) rfl rfl ?aO ?aR (fun _ _ h => h) (fun _ h => h.elim) ?aF ?aB ?aS ?aL ?_
           (case aR => (have hl_ := (show (y189.take (x9_1 : Int).toNat).length = x9_1.toNat from (by rw [List.length_take]; have h_ : (x9_1 : Int) ≤ (y189.length : Int) := of_decide_eq_true (by first | (with_reducible assumption) | assumption); omega)); have hr_ := Kd.C_below HR202.out HBa.out; rw [hl_] at hr_; exact hr_))
           (case aB => exact HBa.out)
           (case aF => exact (fun _ _ => trivial))
           (case aO => exact (by (rX); exact HO201.out))
           (case aS => exact (below_size HBa.out))
           (case aL => have := LMc26.out; have hlx_ := (show (y189.take (x9_1 : Int).toNat).length = x9_1.toNat from (by rw [List.length_take]; have h_ : (x9_1 : Int) ≤ (y189.length : Int) := of_decide_eq_true (by first | (with_reducible assumption) | assumption); omega)); omega)
           intro v204 w33 ho hb hg hat
           rw [← Ny203.out] at ho
           have n0_ := aM (blk_grown (g := gb183) (o := .cells #[.slice A0_0 l0_0.length c0_0] 29 (0, 0)) (by (with_reducible repeat (first | refine blk_drewN ?_ _ | refine blk_drew ?_ | refine blk_alloc ?_ _)); exact BK183.out) hg (Kd.R_ne HO201.out BK183.out (by decide)))
           have n1_ := aM (below_step HB00.out hb)
           have HBa := aM hb
           have n2_ := aM (ho)
           clear BK183
           clear HB
           clear HO201
           have BK183 := n0_
           have HB := n1_
           have HO205 := n2_
           clear n0_ n1_ n2_
           clear ho hb hg hat
           refine hK.out _ _ trivial (fun hHeld => ?_)
           clear hK K
           refine norm_ (a' := ?_) ?_ ?_
           rotate_left
           ·show Act.put _ (some 48) _ = _
            simp only [Act.put, List.setIfInBounds_toArray, List.set_cons_zero, List.set_cons_succ, i64_w, i32_w]
            rfl
           pU 9 (some 4) #[true, true, true, true, true, true, true, true, true, true, false]
           rotate_left
           ·intro w'
            go_simp
            with_reducible rfl
           rotate_left
           ·simp only [Act.put, List.setIfInBounds_toArray, List.set_cons_zero, List.set_cons_succ, i64_w, i32_w]
            rfl
           pU 10 (some 5) #[true, true, true, true, true, true, true, true, true, true, true]
           rotate_left
           ·intro w'
            go_simp
            with_reducible rfl
           rotate_left
           ·simp only [Act.put, List.setIfInBounds_toArray, List.set_cons_zero, List.set_cons_succ, i64_w, i32_w]
            rfl
           refine done_ (done_of HT_.out (by kernel_rfl)) ?_
           try go_wp2
           go_ret2
           exact ⟨_, by eW, Kd.R_lower HO205.out (below_size HB00.out), by repeat (first | (with_reducible first | exact HB.out | apply below_alloc | apply pw_below_drewN | apply below_drew1 | refine below_set ?_ GE183.out) | exact HB.out)⟩
          ·rw [if_neg c26] at H
           exact absurd H (by simp)
         ·rw [if_neg c23] at H
          exact absurd H (by simp)
        ·rw [if_neg c22] at H
         exact absurd H (by simp)
       ·rw [if_neg c21] at H
        exact absurd H (by simp)
   ·rw [if_neg c7] at H
    exact absurd H (by simp)
  ·rw [if_neg c6] at H
   exact absurd H (by simp)
 ·replace c4 := Bool.eq_false_iff.mpr c4
  subst c4
  rw [if_neg (show ¬ (false = true) by decide)] at H
  simp only [Option.some.injEq, Prod.mk.injEq] at H
  obtain ⟨rfl, rfl⟩ := H
  go_enter Tryd.func34, Tryd.ntmps34
  go_wp2_with (first | ((with_reducible refine gate_dst (N := 2) rfl ?_); refine box_event ?hg (N := 2) ?hd (cs := #[.slice A0_0 l0_0.length c0_0]) (t := 29) ?hr ?_; (case hd => rfl); (case hg => rfl); (case hr => first | (go_simp; done) | (go_simp; rfl)); intro gb183 hg w34 hbox hb; have n0_ := aM (below_step (by bB) hb); have n1_ := aM (hbox); have n2_ := aM ((by rw [hg]; exact (below_size (by bB)) : w.heap.size ≤ gb183)); have n3_ := aM ((by rw [hg]; exact (below_size (by bB)) : w.heap.size ≤ gb183)); clear HB; have HB := n0_; have BK183 := n1_; have GW183 := n2_; have GE183 := n3_; clear n0_ n1_ n2_ n3_; clear hb hbox hg; have hcz35_0 : w34.cell? ⟨gb183, 0, none⟩ = some (.slice A0_0 l0_0.length c0_0) := (blk_cell BK183.out 0).trans rfl; have hfz35_0 := blk_frozen BK183.out 0) | ((with_reducible refine gate_callee (f := 112) rfl ?_); refine goesL_ (some 14) rfl rfl Tryd.func112 (by kernel_rfl) rfl #[.agg #[.slice A0_0 l0_0.length c0_0], .string a1] rfl (by mA) ?_; (with_reducible refine (spec_laAsked.calls _ _ l0_0 a1 false _ ?side1 ?side2 A3.out).mono ?_); (case side1 => cC ((Kd.C_below HR0_0.out HB.out))); (case side2 => exact HC0_0.out); rintro e w36 ⟨rfl, hb⟩; refine ⟨_, rfl, ?_⟩; have n0_ := aM (blk_below (g := gb183) (o := .cells #[.slice A0_0 l0_0.length c0_0] 29 (0, 0)) (by (with_reducible repeat (first | refine blk_drewN ?_ _ | refine blk_drew ?_ | refine blk_alloc ?_ _)); exact BK183.out) hb); have n1_ := aM (below_step (by repeat (first | (with_reducible first | exact HB.out | apply below_alloc | apply pw_below_drewN | apply below_drew1 | refine below_set ?_ GE183.out) | exact HB.out)) hb); clear BK183; clear HB; have BK183 := n0_; have HB := n1_; clear n0_ n1_; cX))
  go_ret2
  exact ⟨_, by eW, by first | exact Kd.R_nil _ _ _ _ _ | exact Kd.N_nil _ _ _ _ _ | exact Kd.V_nil _ _ _ _ _ | exact Kd.Q_nil _ _ _ _ _ | exact Kd.S_nil _ _ _ _ _, by repeat (first | (with_reducible first | exact HB.out | apply below_alloc | apply pw_below_drewN | apply below_drew1 | refine below_set ?_ GE183.out) | exact HB.out)⟩

/-! ### impl_LeadOfLamps: function 35 -/
def impl_LeadOfLamps.f (l0_0 : List ByteArray) (a1 : ByteArray) : Option (Int × Int × Bool) := (impl_Lamps_lit.f l0_0 a1).bind fun t207 => (if t207 = true then ((impl_Lamps_course.f l0_0 a1).bind fun bt208 => (some (bt208.2, wrap64 ((bt208.1.length : Int) - bt208.2), true))) else (some (0, 0, false)))
set_option maxHeartbeats 8000000 in
set_option maxRecDepth 100000 in
theorem impl_LeadOfLamps.calls (A0_0 : Option Addr) (c0_0 : Nat) (l0_0 : List ByteArray) (a1 : ByteArray) (r1 : Int) (r2 : Int) (r3 : Bool) (w : World) (hr0_0 : Kd.C Kd.string w A0_0 l0_0.length l0_0) (hc0_0 : l0_0.length ≤ c0_0) (h : impl_LeadOfLamps.f l0_0 a1 = some (r1, r2, r3)) :
  Calls Tryd.prog 35 #[.agg #[.slice A0_0 l0_0.length c0_0], .string a1] w fun e w' => e = .returned (.tuple #[.int .i64 r1, .int .i64 r2, .bool r3]) ∧ Below w.heap.size w w' := by
 have hu29 := Tryd.underlying29
 have HR0_0 := aM hr0_0
 have HC0_0 := aM hc0_0
 clear hr0_0 hc0_0
 have HB := aM (Below.refl w.heap.size w)
 have H : ((impl_Lamps_lit.f l0_0 a1).bind fun t207 => (if t207 = true then ((impl_Lamps_course.f l0_0 a1).bind fun bt208 => (some (bt208.2, wrap64 ((bt208.1.length : Int) - bt208.2), true))) else (some (0, 0, false)))) = some (r1, r2, r3) := h
 clear h
 replace H := Option.bind_eq_some_iff.mp H
 obtain ⟨t207, A30, H⟩ := H
 replace H : (if t207 = true then ((impl_Lamps_course.f l0_0 a1).bind fun bt208 => (some (bt208.2, wrap64 ((bt208.1.length : Int) - bt208.2), true))) else (some (0, 0, false))) = some (r1, r2, r3) := H
 have A3 := aM A30
 clear A30
 by_cases c4 : t207 = true
 ·subst c4
  rw [if_pos rfl] at H
  replace H := Option.bind_eq_some_iff.mp H
  obtain ⟨⟨t208, t211⟩, A50, H⟩ := H
  dsimp only at H
  have A5 := aM A50
  clear A50
  simp only [Option.some.injEq, Prod.mk.injEq] at H
  obtain ⟨rfl, rfl, rfl⟩ := H
  go_enter Tryd.func35, Tryd.ntmps35
  go_wp2_with (first | ((with_reducible refine gate_dst (N := 2) rfl ?_); refine box_event ?hg (N := 2) ?hd (cs := #[.slice A0_0 l0_0.length c0_0]) (t := 29) ?hr ?_; (case hd => rfl); (case hg => rfl); (case hr => first | (go_simp; done) | (go_simp; rfl)); intro gb206 hg w6 hbox hb; have n0_ := aM (below_step (by bB) hb); have n1_ := aM (hbox); have n2_ := aM ((by rw [hg]; exact (below_size (by bB)) : w.heap.size ≤ gb206)); have n3_ := aM ((by rw [hg]; exact (below_size (by bB)) : w.heap.size ≤ gb206)); clear HB; have HB := n0_; have BK206 := n1_; have GW206 := n2_; have GE206 := n3_; clear n0_ n1_ n2_ n3_; clear hb hbox hg; have hcz7_0 : w6.cell? ⟨gb206, 0, none⟩ = some (.slice A0_0 l0_0.length c0_0) := (blk_cell BK206.out 0).trans rfl; have hfz7_0 := blk_frozen BK206.out 0) | ((with_reducible refine gate_callee (f := 108) rfl ?_); refine goesL_ (some 11) rfl rfl Tryd.func108 (by kernel_rfl) rfl #[.agg #[.slice A0_0 l0_0.length c0_0], .string a1] rfl (by mA) ?_; (with_reducible refine (impl_Lamps_lit.calls _ _ l0_0 a1 true _ ?side1 ?side2 A3.out).mono ?_); (case side1 => cC ((Kd.C_below HR0_0.out HB.out))); (case side2 => exact HC0_0.out); rintro e w8 ⟨rfl, hb⟩; refine ⟨_, rfl, ?_⟩; have n0_ := aM (blk_below (g := gb206) (o := .cells #[.slice A0_0 l0_0.length c0_0] 29 (0, 0)) (by (with_reducible repeat (first | refine blk_drewN ?_ _ | refine blk_drew ?_ | refine blk_alloc ?_ _)); exact BK206.out) hb); have n1_ := aM (below_step (by repeat (first | (with_reducible first | exact HB.out | apply below_alloc | apply pw_below_drewN | apply below_drew1 | refine below_set ?_ GE206.out) | exact HB.out)) hb); clear BK206; clear HB; have BK206 := n0_; have HB := n1_; clear n0_ n1_; cX; have hcz9_0 : w8.cell? ⟨gb206, 0, none⟩ = some (.slice A0_0 l0_0.length c0_0) := (blk_cell BK206.out 0).trans rfl; have hfz9_0 := blk_frozen BK206.out 0) | ((with_reducible refine gate_callee (f := 110) rfl ?_); refine goesL_ (some 16) rfl rfl Tryd.func110 (by kernel_rfl) rfl #[.agg #[.slice A0_0 l0_0.length c0_0], .string a1] rfl (by mA) ?_; (with_reducible refine (impl_Lamps_course.calls _ _ l0_0 a1 t208 t211 _ ?side1 ?side2 A5.out).mono ?_); (case side1 => cC ((Kd.C_below HR0_0.out HB.out))); (case side2 => exact HC0_0.out); rintro e w10 ⟨v209, rfl, ho0, hb⟩; refine ⟨_, rfl, ?_⟩; have n0_ := aM (Kd.R_lower ho0 (below_size (by repeat (first | (with_reducible first | exact HB.out | apply below_alloc | apply pw_below_drewN | apply below_drew1 | refine below_set ?_ GE206.out) | exact HB.out)))); have n1_ := aM (blk_below (g := gb206) (o := .cells #[.slice A0_0 l0_0.length c0_0] 29 (0, 0)) (by (with_reducible repeat (first | refine blk_drewN ?_ _ | refine blk_drew ?_ | refine blk_alloc ?_ _)); exact BK206.out) hb); have n2_ := aM (below_step (by repeat (first | (with_reducible first | exact HB.out | apply below_alloc | apply pw_below_drewN | apply below_drew1 | refine below_set ?_ GE206.out) | exact HB.out)) hb); clear BK206; clear HB; have HO210 := n0_; have BK206 := n1_; have HB := n2_; clear n0_ n1_ n2_; cX; (try clear ho0); obtain ⟨Ao11, co11, eo11⟩ := Kd.R_slice HO210.out; subst eo11))
  go_ret3
  exact ⟨by eW, by repeat (first | (with_reducible first | exact HB.out | apply below_alloc | apply pw_below_drewN | apply below_drew1 | refine below_set ?_ GE206.out) | exact HB.out)⟩
 ·replace c4 := Bool.eq_false_iff.mpr c4
  subst c4
  rw [if_neg (show ¬ (false = true) by decide)] at H
  simp only [Option.some.injEq, Prod.mk.injEq] at H
  obtain ⟨rfl, rfl, rfl⟩ := H
  go_enter Tryd.func35, Tryd.ntmps35
  go_wp2_with (first | ((with_reducible refine gate_dst (N := 2) rfl ?_); refine box_event ?hg (N := 2) ?hd (cs := #[.slice A0_0 l0_0.length c0_0]) (t := 29) ?hr ?_; (case hd => rfl); (case hg => rfl); (case hr => first | (go_simp; done) | (go_simp; rfl)); intro gb206 hg w12 hbox hb; have n0_ := aM (below_step (by bB) hb); have n1_ := aM (hbox); have n2_ := aM ((by rw [hg]; exact (below_size (by bB)) : w.heap.size ≤ gb206)); have n3_ := aM ((by rw [hg]; exact (below_size (by bB)) : w.heap.size ≤ gb206)); clear HB; have HB := n0_; have BK206 := n1_; have GW206 := n2_; have GE206 := n3_; clear n0_ n1_ n2_ n3_; clear hb hbox hg; have hcz13_0 : w12.cell? ⟨gb206, 0, none⟩ = some (.slice A0_0 l0_0.length c0_0) := (blk_cell BK206.out 0).trans rfl; have hfz13_0 := blk_frozen BK206.out 0) | ((with_reducible refine gate_callee (f := 108) rfl ?_); refine goesL_ (some 11) rfl rfl Tryd.func108 (by kernel_rfl) rfl #[.agg #[.slice A0_0 l0_0.length c0_0], .string a1] rfl (by mA) ?_; (with_reducible refine (impl_Lamps_lit.calls _ _ l0_0 a1 false _ ?side1 ?side2 A3.out).mono ?_); (case side1 => cC ((Kd.C_below HR0_0.out HB.out))); (case side2 => exact HC0_0.out); rintro e w14 ⟨rfl, hb⟩; refine ⟨_, rfl, ?_⟩; have n0_ := aM (blk_below (g := gb206) (o := .cells #[.slice A0_0 l0_0.length c0_0] 29 (0, 0)) (by (with_reducible repeat (first | refine blk_drewN ?_ _ | refine blk_drew ?_ | refine blk_alloc ?_ _)); exact BK206.out) hb); have n1_ := aM (below_step (by repeat (first | (with_reducible first | exact HB.out | apply below_alloc | apply pw_below_drewN | apply below_drew1 | refine below_set ?_ GE206.out) | exact HB.out)) hb); clear BK206; clear HB; have BK206 := n0_; have HB := n1_; clear n0_ n1_; cX))
  go_ret3
  exact ⟨by eW, by repeat (first | (with_reducible first | exact HB.out | apply below_alloc | apply pw_below_drewN | apply below_drew1 | refine below_set ?_ GE206.out) | exact HB.out)⟩

/-! ### spec_LeadOfLamps: function 36 -/
def spec_LeadOfLamps.f (k : Nat) (l0_0 : List ByteArray) (a1 : ByteArray) : Option (Int × Int × Bool) := (spec_laAsked.f l0_0 a1).bind fun t213 => (if t213 = true then ((spec_laPath.f k l0_0 a1).bind fun bt214 => (some (bt214.2, wrap64 ((bt214.1.length : Int) - bt214.2), true))) else (some (0, 0, false)))
theorem spec_LeadOfLamps.mono : ∀ a0 a1 k, LeO (spec_LeadOfLamps.f k a0 a1) (spec_LeadOfLamps.f (k + 1) a0 a1) := by
 intro a0 a1 k
 unfold spec_LeadOfLamps.f
 repeat' first
   | wE spec_laPath.mono _ _ _
   | wE LeO.refl _
   | wE LeO.none _
   | wR LeO.ite ?_ ?_
   | wR LeO.bind ?_ (fun _ => ?_)
   | exact spec_laPath.mono _ _ _
   | exact LeO.none _
   | refine LeO.ite ?_ ?_
   | refine LeO.bind ?_ (fun _ => ?_)
set_option maxHeartbeats 8000000 in
set_option maxRecDepth 100000 in
theorem spec_LeadOfLamps.calls (k : Nat) (A0_0 : Option Addr) (c0_0 : Nat) (l0_0 : List ByteArray) (a1 : ByteArray) (r1 : Int) (r2 : Int) (r3 : Bool) (w : World) (hr0_0 : Kd.C Kd.string w A0_0 l0_0.length l0_0) (hc0_0 : l0_0.length ≤ c0_0) (h : spec_LeadOfLamps.f k l0_0 a1 = some (r1, r2, r3)) :
  Calls Tryd.prog 36 #[.agg #[.slice A0_0 l0_0.length c0_0], .string a1] w fun e w' => e = .returned (.tuple #[.int .i64 r1, .int .i64 r2, .bool r3]) ∧ Below w.heap.size w w' := by
 have hu29 := Tryd.underlying29
 have HR0_0 := aM hr0_0
 have HC0_0 := aM hc0_0
 clear hr0_0 hc0_0
 have HB := aM (Below.refl w.heap.size w)
 have H : ((spec_laAsked.f l0_0 a1).bind fun t213 => (if t213 = true then ((spec_laPath.f k l0_0 a1).bind fun bt214 => (some (bt214.2, wrap64 ((bt214.1.length : Int) - bt214.2), true))) else (some (0, 0, false)))) = some (r1, r2, r3) := h
 clear h
 replace H := Option.bind_eq_some_iff.mp H
 obtain ⟨t213, A30, H⟩ := H
 replace H : (if t213 = true then ((spec_laPath.f k l0_0 a1).bind fun bt214 => (some (bt214.2, wrap64 ((bt214.1.length : Int) - bt214.2), true))) else (some (0, 0, false))) = some (r1, r2, r3) := H
 have A3 := aM A30
 clear A30
 by_cases c4 : t213 = true
 ·subst c4
  rw [if_pos rfl] at H
  replace H := Option.bind_eq_some_iff.mp H
  obtain ⟨⟨t214, t217⟩, A50, H⟩ := H
  dsimp only at H
  have A5 := aM A50
  clear A50
  simp only [Option.some.injEq, Prod.mk.injEq] at H
  obtain ⟨rfl, rfl, rfl⟩ := H
  go_enter Tryd.func36, Tryd.ntmps36
  go_wp2_with (first | ((with_reducible refine gate_dst (N := 2) rfl ?_); refine box_event ?hg (N := 2) ?hd (cs := #[.slice A0_0 l0_0.length c0_0]) (t := 29) ?hr ?_; (case hd => rfl); (case hg => rfl); (case hr => first | (go_simp; done) | (go_simp; rfl)); intro gb212 hg w6 hbox hb; have n0_ := aM (below_step (by bB) hb); have n1_ := aM (hbox); have n2_ := aM ((by rw [hg]; exact (below_size (by bB)) : w.heap.size ≤ gb212)); have n3_ := aM ((by rw [hg]; exact (below_size (by bB)) : w.heap.size ≤ gb212)); clear HB; have HB := n0_; have BK212 := n1_; have GW212 := n2_; have GE212 := n3_; clear n0_ n1_ n2_ n3_; clear hb hbox hg; have hcz7_0 : w6.cell? ⟨gb212, 0, none⟩ = some (.slice A0_0 l0_0.length c0_0) := (blk_cell BK212.out 0).trans rfl; have hfz7_0 := blk_frozen BK212.out 0) | ((with_reducible refine gate_callee (f := 112) rfl ?_); refine goesL_ (some 11) rfl rfl Tryd.func112 (by kernel_rfl) rfl #[.agg #[.slice A0_0 l0_0.length c0_0], .string a1] rfl (by mA) ?_; (with_reducible refine (spec_laAsked.calls _ _ l0_0 a1 true _ ?side1 ?side2 A3.out).mono ?_); (case side1 => cC ((Kd.C_below HR0_0.out HB.out))); (case side2 => exact HC0_0.out); rintro e w8 ⟨rfl, hb⟩; refine ⟨_, rfl, ?_⟩; have n0_ := aM (blk_below (g := gb212) (o := .cells #[.slice A0_0 l0_0.length c0_0] 29 (0, 0)) (by (with_reducible repeat (first | refine blk_drewN ?_ _ | refine blk_drew ?_ | refine blk_alloc ?_ _)); exact BK212.out) hb); have n1_ := aM (below_step (by repeat (first | (with_reducible first | exact HB.out | apply below_alloc | apply pw_below_drewN | apply below_drew1 | refine below_set ?_ GE212.out) | exact HB.out)) hb); clear BK212; clear HB; have BK212 := n0_; have HB := n1_; clear n0_ n1_; cX; have hcz9_0 : w8.cell? ⟨gb212, 0, none⟩ = some (.slice A0_0 l0_0.length c0_0) := (blk_cell BK212.out 0).trans rfl; have hfz9_0 := blk_frozen BK212.out 0) | ((with_reducible refine gate_callee (f := 114) rfl ?_); refine goesL_ (some 16) rfl rfl Tryd.func114 (by kernel_rfl) rfl #[.agg #[.slice A0_0 l0_0.length c0_0], .string a1] rfl (by mA) ?_; (with_reducible refine (spec_laPath.calls k _ _ l0_0 a1 t214 t217 _ ?side1 ?side2 A5.out).mono ?_); (case side1 => cC ((Kd.C_below HR0_0.out HB.out))); (case side2 => exact HC0_0.out); rintro e w10 ⟨v215, rfl, ho0, hb⟩; refine ⟨_, rfl, ?_⟩; have n0_ := aM (Kd.R_lower ho0 (below_size (by repeat (first | (with_reducible first | exact HB.out | apply below_alloc | apply pw_below_drewN | apply below_drew1 | refine below_set ?_ GE212.out) | exact HB.out)))); have n1_ := aM (blk_below (g := gb212) (o := .cells #[.slice A0_0 l0_0.length c0_0] 29 (0, 0)) (by (with_reducible repeat (first | refine blk_drewN ?_ _ | refine blk_drew ?_ | refine blk_alloc ?_ _)); exact BK212.out) hb); have n2_ := aM (below_step (by repeat (first | (with_reducible first | exact HB.out | apply below_alloc | apply pw_below_drewN | apply below_drew1 | refine below_set ?_ GE212.out) | exact HB.out)) hb); clear BK212; clear HB; have HO216 := n0_; have BK212 := n1_; have HB := n2_; clear n0_ n1_ n2_; cX; (try clear ho0); obtain ⟨Ao11, co11, eo11⟩ := Kd.R_slice HO216.out; subst eo11))
  go_ret3
  exact ⟨by eW, by repeat (first | (with_reducible first | exact HB.out | apply below_alloc | apply pw_below_drewN | apply below_drew1 | refine below_set ?_ GE212.out) | exact HB.out)⟩
 ·replace c4 := Bool.eq_false_iff.mpr c4
  subst c4
  rw [if_neg (show ¬ (false = true) by decide)] at H
  simp only [Option.some.injEq, Prod.mk.injEq] at H
  obtain ⟨rfl, rfl, rfl⟩ := H
  go_enter Tryd.func36, Tryd.ntmps36
  go_wp2_with (first | ((with_reducible refine gate_dst (N := 2) rfl ?_); refine box_event ?hg (N := 2) ?hd (cs := #[.slice A0_0 l0_0.length c0_0]) (t := 29) ?hr ?_; (case hd => rfl); (case hg => rfl); (case hr => first | (go_simp; done) | (go_simp; rfl)); intro gb212 hg w12 hbox hb; have n0_ := aM (below_step (by bB) hb); have n1_ := aM (hbox); have n2_ := aM ((by rw [hg]; exact (below_size (by bB)) : w.heap.size ≤ gb212)); have n3_ := aM ((by rw [hg]; exact (below_size (by bB)) : w.heap.size ≤ gb212)); clear HB; have HB := n0_; have BK212 := n1_; have GW212 := n2_; have GE212 := n3_; clear n0_ n1_ n2_ n3_; clear hb hbox hg; have hcz13_0 : w12.cell? ⟨gb212, 0, none⟩ = some (.slice A0_0 l0_0.length c0_0) := (blk_cell BK212.out 0).trans rfl; have hfz13_0 := blk_frozen BK212.out 0) | ((with_reducible refine gate_callee (f := 112) rfl ?_); refine goesL_ (some 11) rfl rfl Tryd.func112 (by kernel_rfl) rfl #[.agg #[.slice A0_0 l0_0.length c0_0], .string a1] rfl (by mA) ?_; (with_reducible refine (spec_laAsked.calls _ _ l0_0 a1 false _ ?side1 ?side2 A3.out).mono ?_); (case side1 => cC ((Kd.C_below HR0_0.out HB.out))); (case side2 => exact HC0_0.out); rintro e w14 ⟨rfl, hb⟩; refine ⟨_, rfl, ?_⟩; have n0_ := aM (blk_below (g := gb212) (o := .cells #[.slice A0_0 l0_0.length c0_0] 29 (0, 0)) (by (with_reducible repeat (first | refine blk_drewN ?_ _ | refine blk_drew ?_ | refine blk_alloc ?_ _)); exact BK212.out) hb); have n1_ := aM (below_step (by repeat (first | (with_reducible first | exact HB.out | apply below_alloc | apply pw_below_drewN | apply below_drew1 | refine below_set ?_ GE212.out) | exact HB.out)) hb); clear BK212; clear HB; have BK212 := n0_; have HB := n1_; clear n0_ n1_; cX))
  go_ret3
  exact ⟨by eW, by repeat (first | (with_reducible first | exact HB.out | apply below_alloc | apply pw_below_drewN | apply below_drew1 | refine below_set ?_ GE212.out) | exact HB.out)⟩

/-! ### spec_TickOnce: function 37 -/
def spec_TickOnce.f (l0_0 : List ByteArray) (a1 : ByteArray) : Option (ByteArray × Bool) := (spec_laAsked.f l0_0 a1).bind fun t219 => (if t219 = true then ((spec_laTick.f l0_0 a1).bind fun t220 => (some (t220, true))) else (some ((⟨#[]⟩ : ByteArray), false)))
set_option maxHeartbeats 8000000 in
set_option maxRecDepth 100000 in
theorem spec_TickOnce.calls (A0_0 : Option Addr) (c0_0 : Nat) (l0_0 : List ByteArray) (a1 : ByteArray) (r1 : ByteArray) (r2 : Bool) (w : World) (hr0_0 : Kd.C Kd.string w A0_0 l0_0.length l0_0) (hc0_0 : l0_0.length ≤ c0_0) (h : spec_TickOnce.f l0_0 a1 = some (r1, r2)) :
  Calls Tryd.prog 37 #[.agg #[.slice A0_0 l0_0.length c0_0], .string a1] w fun e w' => e = .returned (.tuple #[.string r1, .bool r2]) ∧ Below w.heap.size w w' := by
 have hu29 := Tryd.underlying29
 have HR0_0 := aM hr0_0
 have HC0_0 := aM hc0_0
 clear hr0_0 hc0_0
 have HB := aM (Below.refl w.heap.size w)
 have H : ((spec_laAsked.f l0_0 a1).bind fun t219 => (if t219 = true then ((spec_laTick.f l0_0 a1).bind fun t220 => (some (t220, true))) else (some ((⟨#[]⟩ : ByteArray), false)))) = some (r1, r2) := h
 clear h
 replace H := Option.bind_eq_some_iff.mp H
 obtain ⟨t219, A30, H⟩ := H
 replace H : (if t219 = true then ((spec_laTick.f l0_0 a1).bind fun t220 => (some (t220, true))) else (some ((⟨#[]⟩ : ByteArray), false))) = some (r1, r2) := H
 have A3 := aM A30
 clear A30
 by_cases c4 : t219 = true
 ·subst c4
  rw [if_pos rfl] at H
  replace H := Option.bind_eq_some_iff.mp H
  obtain ⟨t220, A50, H⟩ := H
  replace H : (some (t220, true)) = some (r1, r2) := H
  have A5 := aM A50
  clear A50
  simp only [Option.some.injEq, Prod.mk.injEq] at H
  obtain ⟨rfl, rfl⟩ := H
  go_enter Tryd.func37, Tryd.ntmps37
  go_wp2_with (first | ((with_reducible refine gate_dst (N := 2) rfl ?_); refine box_event ?hg (N := 2) ?hd (cs := #[.slice A0_0 l0_0.length c0_0]) (t := 29) ?hr ?_; (case hd => rfl); (case hg => rfl); (case hr => first | (go_simp; done) | (go_simp; rfl)); intro gb218 hg w6 hbox hb; have n0_ := aM (below_step (by bB) hb); have n1_ := aM (hbox); have n2_ := aM ((by rw [hg]; exact (below_size (by bB)) : w.heap.size ≤ gb218)); have n3_ := aM ((by rw [hg]; exact (below_size (by bB)) : w.heap.size ≤ gb218)); clear HB; have HB := n0_; have BK218 := n1_; have GW218 := n2_; have GE218 := n3_; clear n0_ n1_ n2_ n3_; clear hb hbox hg; have hcz7_0 : w6.cell? ⟨gb218, 0, none⟩ = some (.slice A0_0 l0_0.length c0_0) := (blk_cell BK218.out 0).trans rfl; have hfz7_0 := blk_frozen BK218.out 0) | ((with_reducible refine gate_callee (f := 112) rfl ?_); refine goesL_ (some 8) rfl rfl Tryd.func112 (by kernel_rfl) rfl #[.agg #[.slice A0_0 l0_0.length c0_0], .string a1] rfl (by mA) ?_; (with_reducible refine (spec_laAsked.calls _ _ l0_0 a1 true _ ?side1 ?side2 A3.out).mono ?_); (case side1 => cC ((Kd.C_below HR0_0.out HB.out))); (case side2 => exact HC0_0.out); rintro e w8 ⟨rfl, hb⟩; refine ⟨_, rfl, ?_⟩; have n0_ := aM (blk_below (g := gb218) (o := .cells #[.slice A0_0 l0_0.length c0_0] 29 (0, 0)) (by (with_reducible repeat (first | refine blk_drewN ?_ _ | refine blk_drew ?_ | refine blk_alloc ?_ _)); exact BK218.out) hb); have n1_ := aM (below_step (by repeat (first | (with_reducible first | exact HB.out | apply below_alloc | apply pw_below_drewN | apply below_drew1 | refine below_set ?_ GE218.out) | exact HB.out)) hb); clear BK218; clear HB; have BK218 := n0_; have HB := n1_; clear n0_ n1_; cX; have hcz9_0 : w8.cell? ⟨gb218, 0, none⟩ = some (.slice A0_0 l0_0.length c0_0) := (blk_cell BK218.out 0).trans rfl; have hfz9_0 := blk_frozen BK218.out 0) | ((with_reducible refine gate_callee (f := 123) rfl ?_); refine goesL_ (some 12) rfl rfl Tryd.func123 (by kernel_rfl) rfl #[.agg #[.slice A0_0 l0_0.length c0_0], .string a1] rfl (by mA) ?_; (with_reducible refine (spec_laTick.calls _ _ l0_0 a1 t220 _ ?side1 ?side2 A5.out).mono ?_); (case side1 => cC ((Kd.C_below HR0_0.out HB.out))); (case side2 => exact HC0_0.out); rintro e w10 ⟨rfl, hb⟩; refine ⟨_, rfl, ?_⟩; have n0_ := aM (blk_below (g := gb218) (o := .cells #[.slice A0_0 l0_0.length c0_0] 29 (0, 0)) (by (with_reducible repeat (first | refine blk_drewN ?_ _ | refine blk_drew ?_ | refine blk_alloc ?_ _)); exact BK218.out) hb); have n1_ := aM (below_step (by repeat (first | (with_reducible first | exact HB.out | apply below_alloc | apply pw_below_drewN | apply below_drew1 | refine below_set ?_ GE218.out) | exact HB.out)) hb); clear BK218; clear HB; have BK218 := n0_; have HB := n1_; clear n0_ n1_; cX))
  go_ret2
  exact ⟨by eW, by repeat (first | (with_reducible first | exact HB.out | apply below_alloc | apply pw_below_drewN | apply below_drew1 | refine below_set ?_ GE218.out) | exact HB.out)⟩
 ·replace c4 := Bool.eq_false_iff.mpr c4
  subst c4
  rw [if_neg (show ¬ (false = true) by decide)] at H
  simp only [Option.some.injEq, Prod.mk.injEq] at H
  obtain ⟨rfl, rfl⟩ := H
  go_enter Tryd.func37, Tryd.ntmps37
  go_wp2_with (first | ((with_reducible refine gate_dst (N := 2) rfl ?_); refine box_event ?hg (N := 2) ?hd (cs := #[.slice A0_0 l0_0.length c0_0]) (t := 29) ?hr ?_; (case hd => rfl); (case hg => rfl); (case hr => first | (go_simp; done) | (go_simp; rfl)); intro gb218 hg w11 hbox hb; have n0_ := aM (below_step (by bB) hb); have n1_ := aM (hbox); have n2_ := aM ((by rw [hg]; exact (below_size (by bB)) : w.heap.size ≤ gb218)); have n3_ := aM ((by rw [hg]; exact (below_size (by bB)) : w.heap.size ≤ gb218)); clear HB; have HB := n0_; have BK218 := n1_; have GW218 := n2_; have GE218 := n3_; clear n0_ n1_ n2_ n3_; clear hb hbox hg; have hcz12_0 : w11.cell? ⟨gb218, 0, none⟩ = some (.slice A0_0 l0_0.length c0_0) := (blk_cell BK218.out 0).trans rfl; have hfz12_0 := blk_frozen BK218.out 0) | ((with_reducible refine gate_callee (f := 112) rfl ?_); refine goesL_ (some 8) rfl rfl Tryd.func112 (by kernel_rfl) rfl #[.agg #[.slice A0_0 l0_0.length c0_0], .string a1] rfl (by mA) ?_; (with_reducible refine (spec_laAsked.calls _ _ l0_0 a1 false _ ?side1 ?side2 A3.out).mono ?_); (case side1 => cC ((Kd.C_below HR0_0.out HB.out))); (case side2 => exact HC0_0.out); rintro e w13 ⟨rfl, hb⟩; refine ⟨_, rfl, ?_⟩; have n0_ := aM (blk_below (g := gb218) (o := .cells #[.slice A0_0 l0_0.length c0_0] 29 (0, 0)) (by (with_reducible repeat (first | refine blk_drewN ?_ _ | refine blk_drew ?_ | refine blk_alloc ?_ _)); exact BK218.out) hb); have n1_ := aM (below_step (by repeat (first | (with_reducible first | exact HB.out | apply below_alloc | apply pw_below_drewN | apply below_drew1 | refine below_set ?_ GE218.out) | exact HB.out)) hb); clear BK218; clear HB; have BK218 := n0_; have HB := n1_; clear n0_ n1_; cX))
  go_ret2
  exact ⟨by eW, by repeat (first | (with_reducible first | exact HB.out | apply below_alloc | apply pw_below_drewN | apply below_drew1 | refine below_set ?_ GE218.out) | exact HB.out)⟩

end Go.Proofs.YtifdgebdkhdmhaaDoor.PLTick
