-- PRINTED by drive.py (a program of this session's, over the kit's print.py; wip/tools/drive.py). Lean checks it.
import Derived.Test.YtpjdlobkeafacaaDoorPCycleOfLampsx0
import Derived.Test.YtpjdlobkeafacaaDoorPCycleOfLampsx3
namespace Go.Proofs.YtpjdlobkeafacaaDoor.PCycleOfLamps
open Go.RowKit Go.Proofs.YtpjdlobkeafacaaDoorW.PrintWords Go.Proofs.YtpjdlobkeafacaaDoorW.PrintLast Go.Proofs.YtpjdlobkeafacaaDoorW.PrintMore
attribute [local go_sem] max2_int min2_int max_two min_two max_three min_three max_four min_four   -- for this text's walks alone
set_option linter.unusedVariables false
set_option linter.unusedSimpArgs false

/-! ### impl_Lamps_course: function 56 -/
-- by hand (wip/ext/course.tpl)
def impl_Lamps_course.f (l0_0 : List ByteArray) (a1 : ByteArray) : Option (List ByteArray × Int) := if litR l0_0 a1 = true then courseP (tickS l0_0) 1100 [] a1 else none
theorem impl_Lamps_course.info : (Tryd.prog.info? 9).map (fun i => (i.zero, i.size, i.bytes)) = some (some (.string ⟨#[]⟩), 1, 16) := by kernel_rfl
set_option maxHeartbeats 1000000 in
set_option maxRecDepth 100000 in
theorem impl_Lamps_course.calls (A0_0 : Option Addr) (c0_0 : Nat) (l0_0 : List ByteArray) (a1 : ByteArray) (r1 : List ByteArray) (r2 : Int) (w : World) (hr0_0 : Kd.C Kd.string w A0_0 l0_0.length l0_0) (hc0_0 : l0_0.length ≤ c0_0) (h : impl_Lamps_course.f l0_0 a1 = some (r1, r2)) :
    Calls Tryd.prog 56 #[.agg #[.slice A0_0 l0_0.length c0_0], .string a1] w fun e w' => ∃ v0_ : Value, e = .returned (.tuple #[v0_, .int .i64 r2]) ∧ Kd.R Kd.string 9 w' w.heap.size (fun _ => True) v0_ r1 ∧ Below w.heap.size w w' := by
  unfold impl_Lamps_course.f at h
  split at h
  case isFalse => cases h
  case isTrue hlit =>
  have hu := Tryd.underlying40
  have hus := Tryd.underlying9
  have hz0 : ∀ wx, (zeroValue 3).run Tryd.prog wx = .ok (.int .i64 0) wx := fun wx => by go_simp
  have hmk : ∀ wx, (Instr.makeMap 114 none).run Tryd.prog wx = .ok (.map (some wx.heap.size)) (wx.alloc (.map #[] 0)) := fun wx => run_makeMap 114 wx
  have HH := Aside0.mk h
  have HLIT := Aside0.mk hlit
  have HRR := Aside0.mk hr0_0
  clear h hlit hr0_0
  go_enter Tryd.func56, Tryd.ntmps56
  go_wp2
  have HM0 := Aside0.mk (mapHas_made Tryd.prog 9 3 (w.alloc (.cells #[.slice A0_0 l0_0.length c0_0] 40)))
  have HB0 := Aside0.mk (show Below w.heap.size w ((w.alloc (.cells #[.slice A0_0 l0_0.length c0_0] 40)).alloc (.map #[] 0)) from ((Below.refl _ w).alloc (Nat.le_refl _) _).alloc (by simp) _)
  have BK0 := Aside0.mk (show ((w.alloc (.cells #[.slice A0_0 l0_0.length c0_0] 40)).alloc (.map #[] 0)).heap[w.heap.size]? = some (.cells #[.slice A0_0 l0_0.length c0_0] 40 (0, 0)) from blk_alloc (MapKept.heap_alloc w _).1 _)
  have hsz1 : (w.alloc (.cells #[.slice A0_0 l0_0.length c0_0] 40)).heap.size = w.heap.size + 1 := by simp
  rw [hsz1] at HM0
  clear hsz1 hmk
  obtain ⟨MB, hMB⟩ : ∃ MB, MB = w.heap.size + 1 := ⟨_, rfl⟩
  rw [← hMB] at HM0 ⊢
  have HMB := Aside0.mk (show w.heap.size < MB by omega)
  clear hMB
  generalize (w.alloc (.cells #[.slice A0_0 l0_0.length c0_0] 40)).alloc (.map #[] 0) = W0 at HM0 HB0 BK0 ⊢
  go_loopg [1, 7] 1100 (fun gg v1 v7 w' => ∃ (s : ByteArray) (acc : List ByteArray), v1 = .string s ∧ Aside0 (courseP (tickS l0_0) gg acc s = some (r1, r2)) ∧ Aside0 (litR l0_0 s = true) ∧ Aside0 (acc.length + gg ≤ 1100) ∧ Aside0 (Kd.R Kd.string 9 w' w.heap.size (fun _ => True) v7 acc) ∧ Aside0 (mapHas Tryd.prog 9 3 w' MB acc) ∧ Aside0 (w'.heap[w.heap.size]? = some (.cells #[.slice A0_0 l0_0.length c0_0] 40 (0, 0))) ∧ Aside0 (Below w.heap.size w w'))
  case atStart => exact ⟨a1, [], rfl, HH, HLIT, ⟨by simp⟩, ⟨Kd.R_nil _ _ _ _ _⟩, HM0, BK0, HB0⟩
  case round =>
    clear HM0 HB0 BK0 HH HLIT
    obtain ⟨s, acc, rfl, HA, HLIT, HL, HO, HM, BK, HB⟩ := hrel
    cases gk with
    | zero => exact absurd HA.out (by simp [courseP])
    | succ k1 =>
      obtain ⟨A, c, rfl⟩ := Kd.R_slice HO.out
      have hsm : s.size ≤ maxLen := by have := (lit_facts HLIT.out).2.2.2.1; simp only [maxLen]; omega
      have hlk := mapHas_look (t := 114) HM.out Tryd.underlying9 Tryd.underlying114 Tryd.underlying3 (hz0 wr) s hsm
      have H := HA.out
      clear HA
      rw [courseP] at H
      by_cases hm : s ∈ acc
      · rw [if_pos hm] at H hlk
        simp only [Option.some.injEq, Prod.mk.injEq] at H
        obtain ⟨rfl, rfl⟩ := H
        clear hm
        go_wp2
        go_ret2
        exact ⟨_, rfl, HO.out, HB.out⟩
      · rw [if_neg hm] at H hlk
        have H' := Aside0.mk H
        clear H
        obtain ⟨w1, hup, hm1, hg1⟩ := mapHas_put (t := 114) HM.out Tryd.underlying9 Tryd.underlying114 Tryd.underlying3 s hsm (by have := HL.out; omega) hm
        obtain ⟨es_, c_, hbm⟩ := mapHas_block HM.out
        have HO1 := Aside0.mk (R_map HO.out hbm hg1)
        have BK1 := Aside0.mk (blk_grown BK.out hg1 (by have := HMB.out; intro h; cases h; omega))
        have HB1 := Aside0.mk (HB.out.grown hg1 (below_size HB.out) (fun k' hk' => by cases hk'; exact Nat.le_of_lt HMB.out))
        have HM1 := Aside0.mk hm1
        have HTK := Aside0.mk (show impl_Lamps_tick.f l0_0 s = some (tickS l0_0 s) by
          obtain ⟨_, h1, _, h2, h3, h4⟩ := lit_facts HLIT.out
          unfold impl_Lamps_tick.f
          rw [if_pos ⟨h1, by omega, h3⟩]
          rfl)
        clear hm hm1 hg1 hbm HO HM BK HB hsm
        go_wp2_with (first
          | ((with_reducible refine gate_builtin (b := .append) (xs := #[.tmp 24, .tmp 26]) rfl ?_); at_builtin; refine Kd.R_append Kd.string (w0 := w) w.heap.size rfl (.tmp 24) (.tmp 26) 34 9 (.string ⟨#[]⟩) 16 rfl Tryd.underlying34 impl_Lamps_course.info rfl (by decide) (by omega) (.slice A acc.length c) acc s [.string s] (fun _ => True) (fun _ => False) rfl rfl rfl (fun _ hk => hk.elim) (fun _ _ => trivial) HO1.out HB1.out (below_size HB1.out) (by have := HL.out; omega) ?_; intro v2 w2 ho hb hg hat; have HO2 := Aside0.mk ho; have HB2 := Aside0.mk hb; have HM2 := Aside0.mk (mapHas_kept HM1.out hg (by obtain ⟨es2_, c2_, hbm2⟩ := mapHas_block HM1.out; intro he; obtain ⟨cs_, hcs_⟩ := Kd.R_typed HO1.out MB he.symm; rw [hbm2] at hcs_; cases hcs_)); have BK2 := Aside0.mk (blk_grown BK1.out hg (Kd.R_ne HO1.out BK1.out (by decide))); have hcl2 := (blk_cell BK2.out 0).trans rfl; clear ho hb hg hat)
          | (go_at_call 52; refine (impl_Lamps_tick.calls A0_0 c0_0 l0_0 s (tickS l0_0 s) _ (Kd.C_below HRR.out HB2.out) hc0_0 HTK.out).mono ?_; rintro e w3 ⟨rfl, hb⟩; have HO3 := Aside0.mk (Kd.R_below HO2.out hb); have HM3 := Aside0.mk (mapHas_below HM2.out hb); have BK3 := Aside0.mk (blk_below BK2.out hb); have HB3 := Aside0.mk (below_step HB2.out hb); clear hb hcl2))
        go_roundg k1
        case measure => omega
        case rel => exact ⟨tickS l0_0 s, acc ++ [s], rfl, H', ⟨lit_tick HLIT.out⟩, ⟨by have := HL.out; simp; omega⟩, HO3, HM3, BK3, HB3⟩

/-! ### slices_Index_string_string: function 57 -/
def slices_Index_string_string.l0 : Nat → List ByteArray → ByteArray → Int → Int → Option (Int)
 | 0, _, _, _, _ => none
 | k + 1, x0, x1, x7, x8 => if x8 < x7 then (if 0 ≤ x8 then (if x8 < (x0.length : Int) then (if x1.toList = (rdOf ByteArray.empty x0 x8).toList then (some x8) else (slices_Index_string_string.l0 k x0 x1 x7 (wrap64 (x8 + 1)))) else (none)) else (none)) else (some (-1))
def slices_Index_string_string.f (k : Nat) (l0 : List ByteArray) (a1 : ByteArray) : Option (Int) := slices_Index_string_string.l0 k l0 a1 (l0.length : Int) 0
theorem slices_Index_string_string.mono_l : ∀ k, (∀ y0 y1 y2 y3, LeO (slices_Index_string_string.l0 k y0 y1 y2 y3) (slices_Index_string_string.l0 (k + 1) y0 y1 y2 y3))
 | 0 => fun _ _ _ _ r h => by simp [slices_Index_string_string.l0] at h
 | k + 1 => by
  have ih0 := slices_Index_string_string.mono_l k
  ·intro y0 y1 y2 y3
   unfold slices_Index_string_string.l0
   repeat' first
   | (with_reducible exact ih0 _ _ _ _)
   | (with_reducible exact LeO.refl _)
   | (with_reducible exact LeO.none _)
   | (with_reducible refine LeO.ite ?_ ?_)
   | (with_reducible refine LeO.bind ?_ (fun _ => ?_))
   | exact ih0 _ _ _ _
   | exact LeO.none _
   | refine LeO.ite ?_ ?_
   | refine LeO.bind ?_ (fun _ => ?_)
theorem slices_Index_string_string.mono : ∀ a0 a1 k, LeO (slices_Index_string_string.f k a0 a1) (slices_Index_string_string.f (k + 1) a0 a1) := by
 intro a0 a1 k
 have ih0 := slices_Index_string_string.mono_l k
 unfold slices_Index_string_string.f
 repeat' first
   | (with_reducible exact ih0 _ _ _ _)
   | (with_reducible exact LeO.refl _)
   | (with_reducible exact LeO.none _)
   | (with_reducible refine LeO.ite ?_ ?_)
   | (with_reducible refine LeO.bind ?_ (fun _ => ?_))
   | exact ih0 _ _ _ _
   | exact LeO.none _
   | refine LeO.ite ?_ ?_
   | refine LeO.bind ?_ (fun _ => ?_)
set_option maxHeartbeats 8000000 in
set_option maxRecDepth 100000 in
theorem slices_Index_string_string.calls (k : Nat) (A0 : Option Addr) (c0 : Nat) (l0 : List ByteArray) (a1 : ByteArray) (r : Int) (w : World) (hr0 : Kd.C Kd.string w A0 l0.length l0) (hc0 : l0.length ≤ c0) (h : slices_Index_string_string.f k l0 a1 = some r) :
  Calls Tryd.prog 57 #[.slice A0 l0.length c0, .string a1] w fun e w' => e = .returned (.int .i64 r) ∧ Drawn0 w w' := by
 have HR0 := Aside0.mk hr0
 have HC0 := Aside0.mk hc0
 clear hr0 hc0
 have H : (slices_Index_string_string.l0 k l0 a1 (l0.length : Int) 0) = some r := h
 clear h
 have H' := Aside0.mk H
 clear H
 go_enter Tryd.func57, Tryd.ntmps57
 go_wp2
 go_loopg [8] k (fun kq v8 w' => ∃ (x8_1 : Int), v8 = .int .i64 x8_1 ∧ Aside0 (slices_Index_string_string.l0 kq l0 a1 (l0.length : Int) x8_1 = some r) ∧ Aside0 (kq ≤ k) ∧ Drawn0 w w')
 case atStart => exact ⟨(0), (by first | rfl | (simp; done) | (simp [*]; done)), H', ⟨Nat.le_refl _⟩, by repeat (first | exact Drawn0.refl _ | apply Drawn0.step)⟩
 case round =>
  clear H'
  try clear p2
  obtain ⟨x8_1, rfl, HA, HK1, ⟨m1, rfl⟩⟩ := hrel
  cases gk with
  | zero => exact absurd HA.out (by simp [slices_Index_string_string.l0])
  | succ k1 =>
   have H := HA.out
   clear HA
   simp only [slices_Index_string_string.l0] at H
   by_cases c3 : x8_1 < (l0.length : Int)
   ·rw [if_pos c3] at H
    have c3b0 : decide (x8_1 < (l0.length : Int)) = true := decide_eq_true c3
    clear c3
    by_cases c4 : 0 ≤ x8_1
    ·rw [if_pos c4] at H
     have c4b0 : decide (0 ≤ x8_1) = true := decide_eq_true c4
     clear c4
     by_cases c5 : x8_1 < (l0.length : Int)
     ·rw [if_pos c5] at H
      have c5b0 : decide (x8_1 < (l0.length : Int)) = true := decide_eq_true c5
      clear c5
      by_cases c6 : a1.toList = (rdOf ByteArray.empty l0 x8_1).toList
      ·rw [if_pos c6] at H
       have c6b0 : (a1.toList == (rdOf ByteArray.empty l0 x8_1).toList) = true := beq_iff_eq.mpr c6
       have c6b1 : (a1.toList != (rdOf ByteArray.empty l0 x8_1).toList) = false := bne_eq_false_iff_eq.mpr c6
       clear c6
       obtain rfl := Option.some.inj H
       have p162 : 0 ≤ (x8_1 : Int) := of_decide_eq_true (by first | (with_reducible assumption) | assumption)
       have q162 : x8_1 < (l0.length : Int) := of_decide_eq_true (by first | (with_reducible assumption) | assumption)
       obtain ⟨ad162, e162, hx162_0⟩ := Kd.at_string HR0.out x8_1 p162 q162
       cases e162
       replace p162 := eq_true p162
       replace q162 := eq_true q162
       go_wp2
       go_ret
       exact ⟨by first | rfl | (simp; done) | (simp [*]; done), by repeat (first | exact Drawn0.refl _ | apply Drawn0.step)⟩
      ·rw [if_neg c6] at H
       have c6b0 : (a1.toList == (rdOf ByteArray.empty l0 x8_1).toList) = false := beq_eq_false_iff_ne.mpr c6
       have c6b1 : (a1.toList != (rdOf ByteArray.empty l0 x8_1).toList) = true := bne_iff_ne.mpr c6
       have H' := Aside0.mk H
       clear H
       have p162 : 0 ≤ (x8_1 : Int) := of_decide_eq_true (by first | (with_reducible assumption) | assumption)
       have q162 : x8_1 < (l0.length : Int) := of_decide_eq_true (by first | (with_reducible assumption) | assumption)
       obtain ⟨ad162, e162, hx162_0⟩ := Kd.at_string HR0.out x8_1 p162 q162
       cases e162
       replace p162 := eq_true p162
       replace q162 := eq_true q162
       go_wp2
       go_roundg k1
       case measure => have := HK1.out; omega
       case rel => exact ⟨(wrap64 (x8_1 + 1)), (by first | rfl | (simp; done) | (simp [*]; done)), H', ⟨by have := HK1.out; omega⟩, by repeat (first | exact Drawn0.refl _ | apply Drawn0.step)⟩
     ·rw [if_neg c5] at H
      exact absurd H (by simp)
    ·rw [if_neg c4] at H
     exact absurd H (by simp)
   ·rw [if_neg c3] at H
    have c3b0 : decide (x8_1 < (l0.length : Int)) = false := decide_eq_false c3
    clear c3
    obtain rfl := Option.some.inj H
    go_wp2
    go_ret
    exact ⟨by first | rfl | (simp; done) | (simp [*]; done), by repeat (first | exact Drawn0.refl _ | apply Drawn0.step)⟩

/-! ### impl_CycleOfLamps: function 21 -/
-- by hand (wip/ext/Cycle.tpl)
set_option maxHeartbeats 1000000 in
set_option maxRecDepth 100000 in
/-- slices.Min over texts that a slice has. -/
theorem cyMin (b off c : Nat) (l : List ByteArray) (w : World) (hr : Kd.C Kd.string w (some ⟨b, off, none⟩) l.length l) (hp : 0 < l.length) :
    Calls Tryd.prog 58 #[.slice (some ⟨b, off, none⟩) l.length c] w fun e w' => e = .returned (.string (Lib.minOfS l)) ∧ w' = w := by
  have hmx : ∀ (w : World) (x y : ByteArray), (Builtin.min2 (.string x) (.string y)).run Tryd.prog w = .ok (.string (Lib.minS x y)) w := fun w x y => by
    have h := Lib.run_min_strs (P := Tryd.prog) w #[] 0 x y
    simpa [Builtin.min_] using h
  obtain ⟨ad0, e0, h0⟩ := Kd.at_string hr 0 (by decide) (by omega)
  cases e0
  have ex0 : rdOf ByteArray.empty l 0 = l[0] := by simp [rdOf, hp]
  rw [ex0] at h0
  have hl63 := hr.2.1
  have HR := Aside0.mk hr
  have hp1 : ¬ (l.length : Int) < 1 := by omega
  have p0 : (0 < l.length) = True := eq_true hp
  have e1 : Lib.minOfS (l.take 1) = l[0] := by
    obtain ⟨a, r, rfl⟩ : ∃ a r, l = a :: r := by cases l with | nil => simp at hp | cons a r => exact ⟨a, r, rfl⟩
    simp [Lib.minOfS, Lib.minS]
  have E1 := Aside0.mk e1
  have HP := Aside0.mk hp
  obtain ⟨s0, hs0⟩ : ∃ s, s = l[0] := ⟨_, rfl⟩
  rw [← hs0] at h0 E1
  go_loud (rw [show (⟨b, off, none⟩ : Addr).add (Int.toNat 0) = ⟨b, off, none⟩ from rfl] at h0)
  clear ex0 e1 hr hs0
  go_enter Tryd.func58, Tryd.ntmps58
  go_wp2
  go_loopg [3, 4] (l.length - 1) (fun gg v3 v4 w' => ∃ k : Nat, k + gg = l.length ∧ 1 ≤ k ∧ v3 = .string (Lib.minOfS (l.take k)) ∧ v4 = .int .i64 k ∧ w' = w)
  case atStart => exact ⟨1, by have := HP.out; omega, Nat.le_refl _, by rw [E1.out], rfl, rfl⟩
  case round =>
    clear h0 E1
    obtain ⟨k, hks, hk1, rfl, rfl, rfl⟩ := hrel
    by_cases hq : k < l.length
    · obtain ⟨ad, e, hx⟩ := Kd.at_string HR.out (k : Int) (by omega) (by omega)
      cases e
      simp only [Int.toNat_natCast] at hx
      rw [show rdOf ByteArray.empty l (k : Int) = l[k] by simp [rdOf, hq]] at hx
      have hst := minOfS_take l k hq hk1
      obtain ⟨s, hs⟩ : ∃ s, s = l[k] := ⟨_, rfl⟩
      rw [← hs] at hx hst
      obtain ⟨M, hM⟩ : ∃ M, M = Lib.minOfS (l.take k) := ⟨_, rfl⟩
      rw [← hM] at hst ⊢
      have HST := Aside0.mk hst
      have hk63 : k < 9223372036854775807 := by omega
      replace hx : wr.cell? ⟨b, off + k, none⟩ = some (.string s) := by have h9 := hx; simp only [Addr.add] at h9; rw [if_neg (show ¬ k = 0 by omega)] at h9; exact h9
      clear hs hst hM
      go_wp2
      go_roundg (l.length - (k + 1))
      case measure => omega
      case rel => exact ⟨k + 1, by omega, by omega, by rw [HST.out], by go_num, rfl⟩
    · have e : l.take k = l := List.take_of_length_le (by omega)
      rw [e]
      go_wp2
      go_ret
      exact ⟨rfl, rfl⟩
def cyRen : Go.Shelf.Ren := ⟨fun | 4 => 92 | n => n, fun | 22 => 34 | 25 => 9 | n => n, fun n => n⟩
theorem cyLay : Go.Proofs.Lays8.n4 Tryd.prog cyRen := {
  mixed := by kernel_rfl
  f4 := ⟨Tryd.f92.name, by kernel_rfl, Tryd.func92.trans (congrArg some (by kernel_rfl))⟩
  t0 := Tryd.underlying0
  a0 := Tryd.isAgg0
  z0 := Tryd.sizeOf0
  v0 := Tryd.zeroValue0
  t3 := Tryd.underlying3
  a3 := Tryd.isAgg3
  z3 := Tryd.sizeOf3
  v3 := Tryd.zeroValue3
  t4 := Tryd.underlying4
  a4 := Tryd.isAgg4
  z4 := Tryd.sizeOf4
  v4 := Tryd.zeroValue4
  t9 := Tryd.underlying9
  a9 := Tryd.isAgg9
  z9 := Tryd.sizeOf9
  v9 := Tryd.zeroValue9
  t20 := Tryd.underlying20
  a20 := Tryd.isAgg20
  z20 := Tryd.sizeOf20
  v20 := Tryd.zeroValue20
  t22 := Tryd.underlying34
  a22 := Tryd.isAgg34
  z22 := Tryd.sizeOf34
  v22 := Tryd.zeroValue34 }
theorem cyInfo : (Tryd.prog.info? 9).map (fun i => (i.zero, i.size, i.bytes)) = some (some (.string ⟨#[]⟩), 1, 16) := by kernel_rfl
set_option maxHeartbeats 1000000 in
/-- slices.Grow of no slice: a new row without texts. -/
theorem cyGrow (n : Nat) (w : World) (h1 : 0 < n) (h2 : n ≤ 4000) :
    Calls Tryd.prog 92 #[.slice none 0 0, .int .i64 n] w fun e w' => ∃ v : Value, e = .returned v ∧ Kd.R Kd.string 9 w' w.heap.size (fun _ => True) v [] ∧ Below w.heap.size w w' := by
  obtain ⟨i0, hi, hzz⟩ := Option.map_eq_some_iff.1 cyInfo
  simp only [Prod.mk.injEq] at hzz
  obtain ⟨hz, hs, hb⟩ := hzz
  refine (Any8.slices_Grow_grow cyLay i0 (.string ⟨#[]⟩) hi hz (by omega) none 0 0 n [] w (Nat.le_refl _) (by omega) (by rw [hb]; omega) (by omega) (by simp) (fun _ => rfl) (fun a h => by cases h)).mono ?_
  rintro e w' ⟨rfl, rfl⟩
  have hge := grownCap_ge w (0 + n) 0 (cyRen.t 25)
  have hle := grownCap_le_maxLen w (0 + n) 0 (cyRen.t 25) (by simp only [maxLen]; omega)
  refine ⟨_, rfl, ?_, (below_drew1 (Below.refl _ _)).alloc (by simp) _⟩
  refine Kd.R_of_own (xs := []) ⟨by simp [encs], .inr ⟨w.heap.size, grownCap w (0 + n) 0 (cyRen.t 25), _, rfl, Nat.le_refl _, (MapKept.heap_alloc w.drew _).1, Nat.zero_le _, hle, ?_, by simp [encs]⟩⟩ (fun _ _ => trivial)
  have e : (Value.string ⟨#[]⟩).cells.size = 1 := rfl
  simp only [Builtin.zeroCells, Array.size_append, Array.size_map, Array.size_range, e, Nat.zero_add] at hge ⊢
  simp
  omega
set_option maxHeartbeats 2000000 in
set_option maxRecDepth 100000 in
/-- slices.Concat of two rows of texts. -/
theorem cyConcat (g cc : Nat) (A1 A2 : Option Addr) (c1 c2 : Nat) (l1 l2 : List ByteArray) (w : World) (hg0 : w.cell? ⟨g, 0, none⟩ = some (.slice A1 l1.length c1)) (hg1 : w.cell? ⟨g, 1, none⟩ = some (.slice A2 l2.length c2)) (hr1 : Kd.C Kd.string w A1 l1.length l1) (hr2 : Kd.C Kd.string w A2 l2.length l2) (hp : 0 < l1.length + l2.length) (hl : l1.length + l2.length ≤ 2000) :
    Calls Tryd.prog 59 #[.slice (some ⟨g, 0, none⟩) 2 cc] w fun e w' => ∃ v : Value, e = .returned v ∧ Kd.R Kd.string 9 w' w.heap.size (fun _ => True) v (l1 ++ l2) ∧ Below w.heap.size w w' := by
  have HG0 := Aside0.mk hg0
  have HG1 := Aside0.mk hg1
  have HR1 := Aside0.mk hr1
  have HR2 := Aside0.mk hr2
  have HP := Aside0.mk hp
  have b1 : l1.length ≤ 2000 := by omega
  have b2 : l2.length ≤ 2000 := by omega
  have HGR := Aside0.mk (fun W => cyGrow (l1.length + l2.length) W hp (by omega))
  clear hr1 hr2 hp
  go_enter Tryd.func59, Tryd.ntmps59
  go_wp2
  go_loopg [3, 11] 2 (fun gg v3 v11 w' => ∃ k : Nat, k + gg = 2 ∧ v11 = .int .i64 k ∧ v3 = .int .i64 (if k = 0 then 0 else if k = 1 then (l1.length : Int) else (l1.length : Int) + l2.length) ∧ w' = w)
  case atStart => exact ⟨0, rfl, rfl, rfl, rfl⟩
  case round =>
    obtain ⟨k, hk, rfl, rfl, rfl⟩ := hrel
    have hk3 : k = 0 ∨ k = 1 ∨ k = 2 := by omega
    rcases hk3 with rfl | rfl | rfl
    · simp only [if_true]
      go_wp2
      go_roundg 1
      case measure => omega
      case rel => exact ⟨1, rfl, rfl, by simp, rfl⟩
    · simp only [Nat.one_ne_zero, if_false, if_true]
      go_wp2
      go_roundg 0
      case measure => omega
      case rel => exact ⟨2, rfl, rfl, by simp, rfl⟩
    · rw [if_neg (by decide), if_neg (by decide)]
      go_wp2_with (go_at_call 92; refine (HGR.out _).mono ?_; rintro e w1 ⟨v, rfl, ho, hb⟩; have HO1 := Aside0.mk ho; have HB1 := Aside0.mk hb; clear ho hb)
      obtain ⟨W0, hW0⟩ : ∃ W0, W0 = wr := ⟨_, rfl⟩
      subst hW0
      go_loopg [6, 27] 2 (fun gg v6 v27 w' => ∃ k : Nat, k + gg = 2 ∧ v27 = .int .i64 k ∧ Aside0 (Kd.R Kd.string 9 w' W0.heap.size (fun _ => True) v6 (if k = 0 then [] else if k = 1 then l1 else l1 ++ l2)) ∧ Aside0 (Below W0.heap.size W0 w'))
      case atStart => exact ⟨0, rfl, rfl, HO1, HB1⟩
      case round =>
        clear HO1 HB1
        obtain ⟨k, hk, rfl, HO, HB⟩ := hrel
        have hk3 : k = 0 ∨ k = 1 ∨ k = 2 := by omega
        have hg0 := (HB.out.cell (World.block_lt_of_cell? _ _ HG0.out)).trans HG0.out
        have hg1 := (HB.out.cell (World.block_lt_of_cell? _ _ HG1.out)).trans HG1.out
        have HC1 := Aside0.mk (Kd.C_below HR1.out HB.out)
        have HC2 := Aside0.mk (Kd.C_below HR2.out HB.out)
        rcases hk3 with rfl | rfl | rfl
        · rw [if_pos rfl] at HO
          go_wp2_with ((with_reducible refine gate_builtin (b := .append) (xs := #[.tmp 31, .tmp 32]) rfl ?_); at_builtin; refine Kd.R_append_row Value.string ByteArray.empty (w0 := W0) W0.heap.size rfl (.tmp 31) (.tmp 32) 34 9 (.string ⟨#[]⟩) 16 rfl Tryd.underlying34 cyInfo rfl (by decide) u6 [] l1 A1 l1.length c1 (fun _ => True) rfl rfl (fun _ _ => trivial) HO.out HC1.out HB.out (below_size HB.out) (by simp only [List.length_nil]; omega) ?_; intro v1 w1 ho hb hg hat; have HO1 := Aside0.mk ho; have HB1 := Aside0.mk hb; clear ho hb hg hat)
          go_roundg 1
          case measure => omega
          case rel => exact ⟨1, rfl, rfl, HO1, HB1⟩
        · rw [if_neg (by decide), if_pos rfl] at HO
          go_wp2_with ((with_reducible refine gate_builtin (b := .append) (xs := #[.tmp 31, .tmp 32]) rfl ?_); at_builtin; refine Kd.R_append_row Value.string ByteArray.empty (w0 := W0) W0.heap.size rfl (.tmp 31) (.tmp 32) 34 9 (.string ⟨#[]⟩) 16 rfl Tryd.underlying34 cyInfo rfl (by decide) u6 l1 l2 A2 l2.length c2 (fun _ => True) rfl rfl (fun _ _ => trivial) HO.out HC2.out HB.out (below_size HB.out) (by omega) ?_; intro v1 w1 ho hb hg hat; have HO1 := Aside0.mk ho; have HB1 := Aside0.mk hb; clear ho hb hg hat)
          go_roundg 0
          case measure => omega
          case rel => exact ⟨2, rfl, rfl, HO1, HB1⟩
        · rw [if_neg (by decide), if_neg (by decide)] at HO
          go_wp2
          go_ret
          exact ⟨_, rfl, HO.out, HB.out⟩
theorem addr0 (g n : Nat) : (⟨g, 0, none⟩ : Addr).add n = ⟨g, n, none⟩ := by
  simp only [Addr.add]
  by_cases h : n = 0
  · rw [if_pos h, h]
  · rw [if_neg h, Nat.zero_add]
theorem addrN (g m n : Nat) : (⟨g, m, none⟩ : Addr).add n = ⟨g, m + n, none⟩ := by
  simp only [Addr.add]
  by_cases h : n = 0
  · rw [if_pos h, h]; rfl
  · rw [if_neg h]
theorem cyIndex_ev (l : List ByteArray) (a : ByteArray) (hl : l.length ≤ 4000) (ha : a ∈ l) : Ev (fun k => slices_Index_string_string.f k l a) (idxS l a : Nat) := by
  have hlt : idxS l a < l.length := List.findIdx_lt_length.2 ⟨a, ha, by simp⟩
  have key : ∀ (n i : Nat), i + n = idxS l a → Ev (fun k => slices_Index_string_string.l0 k l a (l.length : Int) (i : Int)) ((idxS l a : Nat) : Int) := by
    intro n
    induction n with
    | zero =>
      intro i hi
      have hi' : i = idxS l a := by omega
      have hp : i < l.length := by omega
      have er : rdOf ByteArray.empty l (i : Int) = l[i] := by simp [rdOf, hp]
      have e : l[i] = a := by
        subst hi'
        have := List.findIdx_getElem (p := fun x => decide (x = a)) (xs := l) (w := hlt)
        exact of_decide_eq_true this
      refine Ev.last fun k => ?_
      rw [slices_Index_string_string.l0, if_pos (by omega), if_pos (by omega), if_pos (by omega), er, e]
      rw [if_pos (by simp)]
      rw [hi']
    | succ n ih =>
      intro i hi
      have hp : i < l.length := by omega
      have er : rdOf ByteArray.empty l (i : Int) = l[i] := by simp [rdOf, hp]
      have e : ¬ l[i] = a := by
        have := List.not_of_lt_findIdx (p := fun x => decide (x = a)) (xs := l) (i := i) (by show i < idxS l a; omega)
        simpa using this
      refine Ev.next ⟨0, fun k _ => ?_⟩ (ih (i + 1) (by omega))
      rw [slices_Index_string_string.l0, if_pos (by omega), if_pos (by omega), if_pos (by omega), er, w64 (by omega) (by omega)]
      rw [if_neg (fun h => e (ByteArray.ext (Array.toList_inj.1 (by simpa [ByteArray.toList_eq] using h)).symm))]
      rfl
  exact key (idxS l a) 0 (by omega)
theorem minOfS_mem : ∀ (l : List ByteArray), 0 < l.length → Lib.minOfS l ∈ l := by
  intro l h
  have key : ∀ (n k : Nat), k + n = l.length → 0 < k → Lib.minOfS (l.take k) ∈ l → Lib.minOfS l ∈ l := by
    intro n
    induction n with
    | zero => intro k hk _ hm; rw [List.take_of_length_le (by omega)] at hm; exact hm
    | succ n ih =>
      intro k hk h0 hm
      refine ih (k + 1) (by omega) (by omega) ?_
      rw [minOfS_take l k (by omega) h0]
      unfold Lib.minS
      split
      · exact hm
      · exact List.getElem_mem _
  refine key (l.length - 1) 1 (by omega) (by decide) ?_
  obtain ⟨a, r, rfl⟩ : ∃ a r, l = a :: r := by cases l with | nil => simp at h | cons a r => exact ⟨a, r, rfl⟩
  simp [Lib.minOfS, Lib.minS]
/-- The place of the least text. -/
def cyI (c : List ByteArray) : Nat := idxS c (Lib.minOfS c)
def cyS (c : List ByteArray) : List ByteArray := c.drop (cyI c) ++ c.take (cyI c)
theorem cyI_lt {c : List ByteArray} (h : 0 < c.length) : cyI c < c.length := List.findIdx_lt_length.2 ⟨_, minOfS_mem c h, by simp⟩
def impl_CycleOfLamps.f (l0_0 : List ByteArray) (a1 : ByteArray) : Option (List ByteArray × Bool) := (impl_Lamps_lit.f l0_0 a1).bind fun b => (if b = true then ((impl_Lamps_course.f l0_0 a1).bind fun r => (if 0 ≤ r.2 ∧ r.2 < r.1.length ∧ r.1.length ≤ 1100 then some (cyS (r.1.drop r.2.toNat), true) else none)) else some ([], false))
set_option maxHeartbeats 2000000 in
set_option maxRecDepth 100000 in
theorem impl_CycleOfLamps.calls (A0_0 : Option Addr) (c0_0 : Nat) (l0_0 : List ByteArray) (a1 : ByteArray) (r1 : List ByteArray) (r2 : Bool) (w : World) (hr0_0 : Kd.C Kd.string w A0_0 l0_0.length l0_0) (hc0_0 : l0_0.length ≤ c0_0) (h : impl_CycleOfLamps.f l0_0 a1 = some (r1, r2)) :
    Calls Tryd.prog 21 #[.agg #[.slice A0_0 l0_0.length c0_0], .string a1] w fun e w' => ∃ v0_ : Value, e = .returned (.tuple #[v0_, .bool r2]) ∧ Kd.R Kd.string 9 w' w.heap.size (fun _ => True) v0_ r1 ∧ Below w.heap.size w w' := by
  unfold impl_CycleOfLamps.f at h
  have hu := Tryd.underlying40
  have hus := Tryd.underlying9
  obtain ⟨b, hlit, h⟩ := Option.bind_eq_some_iff.mp h
  have HLI := Aside0.mk (fun W (hb : Below w.heap.size w W) => impl_Lamps_lit.calls A0_0 c0_0 l0_0 a1 b W (Kd.C_below hr0_0 hb) hc0_0 hlit)
  have HB0 := Aside0.mk (show Below w.heap.size w (w.alloc (.cells #[.slice A0_0 l0_0.length c0_0] 40)) from (Below.refl _ w).alloc (Nat.le_refl _) _)
  have BK0 := Aside0.mk (show (w.alloc (.cells #[.slice A0_0 l0_0.length c0_0] 40)).heap[w.heap.size]? = some (.cells #[.slice A0_0 l0_0.length c0_0] 40 (0, 0)) from (MapKept.heap_alloc w _).1)
  cases b with
  | false =>
    simp only [Bool.false_eq_true, if_false, Option.some.injEq, Prod.mk.injEq] at h
    obtain ⟨rfl, rfl⟩ := h
    clear hr0_0 hlit
    go_enter Tryd.func21, Tryd.ntmps21
    go_wp2_with (go_at_call 55; refine (HLI.out _ HB0.out).mono ?_; rintro e w1 ⟨rfl, hb⟩; have HB1 := Aside0.mk (below_step HB0.out hb); clear hb)
    go_ret2
    exact ⟨_, rfl, Kd.R_nil _ _ _ _ _, HB1.out⟩
  | true =>
    simp only [if_true] at h
    obtain ⟨⟨R1, R2⟩, hcr, h⟩ := Option.bind_eq_some_iff.mp h
    simp only at h
    split at h
    case isFalse => cases h
    case isTrue hall =>
    obtain ⟨hd0, hdl, h1100⟩ := hall
    simp only [Option.some.injEq, Prod.mk.injEq] at h
    obtain ⟨rfl, rfl⟩ := h
    obtain ⟨d, rfl⟩ : ∃ d : Nat, R2 = (d : Int) := ⟨R2.toNat, by omega⟩
    have hd : d < R1.length := by omega
    rw [Int.toNat_natCast]
    have HCO := Aside0.mk (fun W (hb : Below w.heap.size w W) => impl_Lamps_course.calls A0_0 c0_0 l0_0 a1 R1 d W (Kd.C_below hr0_0 hb) hc0_0 hcr)
    have HD := Aside0.mk hd
    have H11 := Aside0.mk h1100
    have hdi : (d : Int) ≤ (R1.length : Int) := by omega
    obtain ⟨C, hC⟩ : ∃ C, C = R1.drop d := ⟨_, rfl⟩
    have hCl : C.length = R1.length - d := by rw [hC, List.length_drop]
    have hCp : 0 < C.length := by omega
    obtain ⟨KI, hKI⟩ := cyIndex_ev C (Lib.minOfS C) (by omega) (minOfS_mem C hCp)
    have HIX := Aside0.mk (hKI KI (Nat.le_refl _))
    have HCE := Aside0.mk hC
    have HCL := Aside0.mk hCl
    have HCP := Aside0.mk hCp
    rw [← hC]
    clear hr0_0 hlit hcr hd hd0 hdl h1100 hC hCl hCp hKI h
    go_enter Tryd.func21, Tryd.ntmps21
    go_wp2_with (first
      | (go_at_call 55; refine (HLI.out _ HB0.out).mono ?_; rintro e w1 ⟨rfl, hb⟩; have HB1 := Aside0.mk (below_step HB0.out hb); have BK1 := Aside0.mk (blk_below BK0.out hb); have hcl1 := (blk_cell BK1.out 0).trans rfl; clear hb)
      | (go_at_call 56; refine (HCO.out _ HB1.out).mono ?_; rintro e w2 ⟨v0, rfl, ho, hb⟩; have HB2 := Aside0.mk (below_step HB1.out hb); obtain ⟨g, co, rfl, hg1, hg2, hg3⟩ := Kd.R_form ho (by have := HD.out; omega); have hco := (Kd.R_reads' ho).2.1; have HO := Aside0.mk ho; have dco : d ≤ co := (by have := HD.out; omega); have dne : ¬ co = d := (by have := HD.out; omega); have hcc := Kd.C_drop (m := d) (Kd.R_reads' ho).2.2 (Nat.le_of_lt HD.out) hco; rw [if_neg dne] at hcc; replace hcc : Kd.C Kd.string w2 (some ((⟨g, 0, none⟩ : Addr).add (d * 1))) (R1.drop d).length (R1.drop d) := hcc; rw [Nat.mul_one, addr0, ← HCE.out] at hcc; have HCC := Aside0.mk hcc; have dcl : C.length ≤ co - d := (by have := HCL.out; omega); clear hb ho hg1 hg2 hg3 hcl1 hcc)
      | (go_at_call 58; rw [← HCL.out]; refine (cyMin g d (co - d) C w2 HCC.out HCP.out).mono ?_; rintro e w3 ⟨rfl, rfl⟩)
      | (go_at_call 57; refine (slices_Index_string_string.calls KI (some ⟨g, d, none⟩) (co - d) C (Lib.minOfS C) ((cyI C : Nat) : Int) _ HCC.out dcl HIX.out).mono ?_; rintro e w4 ⟨rfl, ⟨nd, rfl⟩⟩))
    have HB3 := Aside0.mk (below_step HB2.out (pw_below_drewN (Below.refl _ _) nd))
    have HC3 := Aside0.mk (Kd.C_below HCC.out (pw_below_drewN (Below.refl _ _) nd))
    have HIE := Aside0.mk (cyI_lt HCP.out)
    have HFIN := Aside0.mk (show cyS C = C.drop (cyI C) ++ C.take (cyI C) from rfl)
    generalize w3.drewN nd = W3 at HB3 HC3 ⊢
    obtain ⟨I, hI⟩ : ∃ I, I = cyI C := ⟨_, rfl⟩
    rw [← hI] at HIE HFIN ⊢
    have i1 : I ≤ C.length := Nat.le_of_lt HIE.out
    have i2 : I ≤ co - d := by omega
    have i3 : ¬ co - d = I := by have := HIE.out; omega
    have i4 : (I : Int) ≤ (C.length : Int) := by omega
    clear hI HIX HCC HO HB2
    go_still_tail 6, (by kernel_rfl)
    change wpList _ _ _ _ _ W3.drew
    have HB4 := Aside0.mk (below_drew1 HB3.out)
    have HC4 := Aside0.mk (Kd.C_drew HC3.out)
    generalize W3.drew = W4 at HB4 HC4 ⊢
    clear HB3 HC3
    have hLd : (C.drop I).length = C.length - I := List.length_drop
    have hLt : (C.take I).length = I := by rw [List.length_take]; omega
    have HB5 := Aside0.mk (HB4.out.alloc (below_size HB4.out) (.cells #[.slice (some ⟨g, d + I, none⟩) (C.length - I) (co - d - I), .slice (some ⟨g, d, none⟩) I (co - d)] 34))
    have HD5 := Aside0.mk (show Kd.C Kd.string (W4.alloc (.cells #[.slice (some ⟨g, d + I, none⟩) (C.length - I) (co - d - I), .slice (some ⟨g, d, none⟩) I (co - d)] 34)) (some ⟨g, d + I, none⟩) (C.drop I).length (C.drop I) from by
      have h1 := Kd.C_drop (c := co - d) (m := I) HC4.out i1 dcl
      rw [if_neg i3] at h1
      replace h1 : Kd.C Kd.string W4 (some ((⟨g, d, none⟩ : Addr).add (I * 1))) (C.drop I).length (C.drop I) := h1
      rw [Nat.mul_one, addrN] at h1
      exact Kd.C_alloc h1 _)
    have HT5 := Aside0.mk (Kd.C_alloc (Kd.C_take (m := I) HC4.out i1) (.cells #[.slice (some ⟨g, d + I, none⟩) (C.length - I) (co - d - I), .slice (some ⟨g, d, none⟩) I (co - d)] 34))
    have HNW := Aside0.mk (MapKept.heap_alloc W4 (.cells #[.slice (some ⟨g, d + I, none⟩) (C.length - I) (co - d - I), .slice (some ⟨g, d, none⟩) I (co - d)] 34)).1
    have HCK := Aside0.mk (show 0 < (C.drop I).length + (C.take I).length ∧ (C.drop I).length + (C.take I).length ≤ 2000 from by have := HCP.out; have := HCL.out; have := H11.out; omega)
    go_wp2_with (go_at_call 59; refine (cyConcat W4.heap.size 2 (some ⟨g, d + I, none⟩) (some ⟨g, d, none⟩) (co - d - I) (co - d) (C.drop I) (C.take I) _ (by rw [hLd]; exact (blk_cell HNW.out 0).trans rfl) (by rw [hLt]; exact (blk_cell HNW.out 1).trans rfl) HD5.out HT5.out HCK.out.1 HCK.out.2).mono ?_; rintro e w5 ⟨v, rfl, ho, hb⟩; have HO5 := Aside0.mk (Kd.R_lower ho (below_size HB5.out)); have HB6 := Aside0.mk (below_step HB5.out hb); clear ho hb)
    go_ret2
    exact ⟨_, rfl, HFIN.out ▸ HO5.out, HB6.out⟩

/-! ### laws_markText: function 60 -/
def laws_markText.l0 : Nat → Int → ByteArray → Option (ByteArray)
 | 0, _, _ => none
 | k + 1, x0, x3 => if x0 > 0 then ((some (([(wrap64 (48 + (Int.tmod x0 10))) % 256] : List Int) : List Int)).bind fun y163 => (if (strOfNums y163).size + x3.size ≤ 9223372036854775807 then (laws_markText.l0 k (wrap64 (Int.tdiv x0 10)) ((strOfNums y163) ++ x3)) else (none))) else (if 1 + x3.size ≤ 9223372036854775807 then (some ((⟨#[109]⟩ : ByteArray) ++ x3)) else (none))
def laws_markText.f (k : Nat) (a0 : Int) : Option (ByteArray) := if a0 ≤ 0 then (some (⟨#[109, 48]⟩ : ByteArray)) else (laws_markText.l0 k a0 (⟨#[]⟩ : ByteArray))
theorem laws_markText.mono_l : ∀ k, (∀ y0 y1, LeO (laws_markText.l0 k y0 y1) (laws_markText.l0 (k + 1) y0 y1))
 | 0 => fun _ _ r h => by simp [laws_markText.l0] at h
 | k + 1 => by
  have ih0 := laws_markText.mono_l k
  ·intro y0 y1
   unfold laws_markText.l0
   repeat' first
   | (with_reducible exact ih0 _ _)
   | (with_reducible exact LeO.refl _)
   | (with_reducible exact LeO.none _)
   | (with_reducible refine LeO.ite ?_ ?_)
   | (with_reducible refine LeO.bind ?_ (fun _ => ?_))
   | exact ih0 _ _
   | exact LeO.none _
   | refine LeO.ite ?_ ?_
   | refine LeO.bind ?_ (fun _ => ?_)
theorem laws_markText.mono : ∀ a0 k, LeO (laws_markText.f k a0) (laws_markText.f (k + 1) a0) := by
 intro a0 k
 have ih0 := laws_markText.mono_l k
 unfold laws_markText.f
 repeat' first
   | (with_reducible exact ih0 _ _)
   | (with_reducible exact LeO.refl _)
   | (with_reducible exact LeO.none _)
   | (with_reducible refine LeO.ite ?_ ?_)
   | (with_reducible refine LeO.bind ?_ (fun _ => ?_))
   | exact ih0 _ _
   | exact LeO.none _
   | refine LeO.ite ?_ ?_
   | refine LeO.bind ?_ (fun _ => ?_)
set_option maxHeartbeats 8000000 in
set_option maxRecDepth 100000 in
theorem laws_markText.calls (k : Nat) (a0 : Int) (r : ByteArray) (w : World) (h : laws_markText.f k a0 = some r) :
  Calls Tryd.prog 60 #[.int .i64 a0] w fun e w' => e = .returned (.string r) ∧ Below w.heap.size w w' := by
 have HB := Aside0.mk (Below.refl w.heap.size w)
 have H : (if a0 ≤ 0 then (some (⟨#[109, 48]⟩ : ByteArray)) else (laws_markText.l0 k a0 (⟨#[]⟩ : ByteArray))) = some r := h
 clear h
 by_cases c2 : a0 ≤ 0
 ·rw [if_pos c2] at H
  have c2b0 : decide (a0 ≤ 0) = true := decide_eq_true c2
  clear c2
  obtain rfl := Option.some.inj H
  go_enter Tryd.func60, Tryd.ntmps60
  go_wp2
  go_ret
  exact ⟨by first | rfl | (simp [errW_none, errW_some] <;> rfl) | (simp [*, errW_none, errW_some] <;> rfl), by repeat (first | (with_reducible first | exact HB.out | apply below_alloc | apply pw_below_drewN | apply below_drew1) | exact HB.out)⟩
 ·rw [if_neg c2] at H
  have c2b0 : decide (a0 ≤ 0) = false := decide_eq_false c2
  clear c2
  have H' := Aside0.mk H
  clear H
  go_enter Tryd.func60, Tryd.ntmps60
  go_wp2
  go_loopg [0, 3] k (fun kq v0 v3 w' => ∃ (x0_1 : Int) (x3_1 : ByteArray), v0 = .int .i64 x0_1 ∧ v3 = .string x3_1 ∧ Aside0 (laws_markText.l0 kq x0_1 x3_1 = some r) ∧ Aside0 (kq ≤ k) ∧ Aside0 (Below w.heap.size w w'))
  case atStart => exact ⟨(a0), ((⟨#[]⟩ : ByteArray)), (by first | rfl | (simp; done) | (simp [*]; done)), (by first | rfl | (simp; done) | (simp [*]; done)), H', ⟨Nat.le_refl _⟩, ⟨by repeat (first | (with_reducible first | exact HB.out | apply below_alloc | apply pw_below_drewN | apply below_drew1) | exact HB.out)⟩⟩
  case round =>
   clear H'
   try clear c2
   try clear c2b0
   try clear p2
   obtain ⟨x0_1, x3_1, rfl, rfl, HA, HK1, HB⟩ := hrel
   cases gk with
   | zero => exact absurd HA.out (by simp [laws_markText.l0])
   | succ k1 =>
    have H := HA.out
    clear HA
    simp only [laws_markText.l0] at H
    by_cases c3 : x0_1 > 0
    ·rw [if_pos c3] at H
     have c3b0 : decide (0 < x0_1) = true := decide_eq_true c3
     clear c3
     obtain ⟨y163, hy163⟩ : ∃ y_ : List Int, y_ = (([(wrap64 (48 + (Int.tmod x0_1 10))) % 256] : List Int)) := ⟨_, rfl⟩
     replace H : (if (strOfNums y163).size + x3_1.size ≤ 9223372036854775807 then (laws_markText.l0 k1 (wrap64 (Int.tdiv x0_1 10)) ((strOfNums y163) ++ x3_1)) else (none)) = some r := by first | (rw [hy163]; with_reducible exact H) | (have H2_ := (Option.bind_some _ _).symm.trans H; rw [hy163]; with_reducible exact H2_) | (have H2_ := (Option.bind_some _ _).symm.trans H; with_reducible exact H2_) | with_reducible exact H | (rw [hy163]; exact H) | exact H
     have Ny163 := Aside0.mk hy163
     clear hy163
     by_cases c4 : (strOfNums y163).size + x3_1.size ≤ 9223372036854775807
     ·rw [if_pos c4] at H
      have c4b0 := eq_true c4
      have c4b1 : decide ((strOfNums y163).size + x3_1.size ≤ 9223372036854775807) = true := decide_eq_true c4
      try have c4b2 : (9223372036854775807 < (strOfNums y163).size + x3_1.size) = False := eq_false (Nat.not_lt.2 c4)
      have H' := Aside0.mk H
      clear H
      go_wp2_with (first | ((with_reducible refine gate_dst (N := 12) rfl ?_); refine Kd.R_lit (Kd.int .u8) _ 5 ?hg (N := 12) ?hd (xs := ([(wrap64 (48 + (Int.tmod x0_1 10))) % 256] : List Int)) (inner := [.int .u8 ((wrap64 (48 + (Int.tmod x0_1 10))) % 256)]) (ok := fun _ => True) (okp := fun _ => True) ?hr ?hp (fun _ hk => hk) trivial (Below.refl _ _) (Nat.le_refl _) (by simp) ?_; (case hd => rfl); (case hg => rfl); (case hr => first | (go_simp; done) | (go_simp; rfl)); (case hp => exact (Reps.one (show Kd.M (Kd.int .u8) _ _ _ ((wrap64 (48 + (Int.tmod x0_1 10))) % 256) [.int .u8 ((wrap64 (48 + (Int.tmod x0_1 10))) % 256)] from rfl) (Reps.none _ _))); intro v164 w5 ho6 hb hg_ hnew_; clear hg_ hnew_; (first | rw [← Ny163.out] at ho6 | (simp only [Int.reduceToNat] at ho6; rw [← Ny163.out] at ho6)); have n0_ := Aside0.mk (Kd.R_lower ho6 (below_size (by repeat (first | (with_reducible first | exact HB.out | apply below_alloc | apply pw_below_drewN | apply below_drew1) | exact HB.out)))); have n1_ := Aside0.mk (below_step (by repeat (first | (with_reducible first | exact HB.out | apply below_alloc | apply pw_below_drewN | apply below_drew1) | exact HB.out)) hb); clear HB; have HO165 := n0_; have HB := n1_; clear n0_ n1_; clear hb ho6; have hcv7 := own_string (P := Tryd.prog) Tryd.underlying66 Tryd.underlying5 Tryd.underlying9 (Kd.own_of_R HO165.out)))
      go_roundg k1
      case measure => have := HK1.out; omega
      case rel => exact ⟨(wrap64 (Int.tdiv x0_1 10)), ((strOfNums y163) ++ x3_1), (by first | rfl | (simp; done) | (simp [*]; done)), (by first | rfl | (simp; done) | (simp [*]; done)), H', ⟨by have := HK1.out; omega⟩, ⟨by repeat (first | (with_reducible first | exact HB.out | apply below_alloc | apply pw_below_drewN | apply below_drew1) | exact HB.out)⟩⟩
     ·rw [if_neg c4] at H
      exact absurd H (by simp)
    ·rw [if_neg c3] at H
     have c3b0 : decide (0 < x0_1) = false := decide_eq_false c3
     clear c3
     by_cases c8 : 1 + x3_1.size ≤ 9223372036854775807
     ·rw [if_pos c8] at H
      have c8b0 := eq_true c8
      have c8b1 : decide (1 + x3_1.size ≤ 9223372036854775807) = true := decide_eq_true c8
      try have c8b2 : (9223372036854775807 < 1 + x3_1.size) = False := eq_false (Nat.not_lt.2 c8)
      obtain rfl := Option.some.inj H
      go_wp2
      go_ret
      exact ⟨by first | rfl | (simp [errW_none, errW_some] <;> rfl) | (simp [*, errW_none, errW_some] <;> rfl), by repeat (first | (with_reducible first | exact HB.out | apply below_alloc | apply pw_below_drewN | apply below_drew1) | exact HB.out)⟩
     ·rw [if_neg c8] at H
      exact absurd H (by simp)

/-! ### laws_markStringS: function 24 -/
def laws_markStringS.l0 : Nat → List ByteArray → Int → Int → Option (Int × List ByteArray)
 | 0, _, _, _ => none
 | k + 1, x0, x1, x5 => if x5 < (x0.length : Int) then ((laws_markText.f k x1).bind fun t166 => (if 0 ≤ x5 then (laws_markStringS.l0 k (x0.set (x5 : Int).toNat t166) (wrap64 (x1 + 1)) (wrap64 (x5 + 1))) else (none))) else (some (x1, x0))
def laws_markStringS.f (k : Nat) (l0 : List ByteArray) (a1 : Int) : Option (Int × List ByteArray) := laws_markStringS.l0 k l0 a1 0
theorem laws_markStringS.mono_l : ∀ k, (∀ y0 y1 y2, LeO (laws_markStringS.l0 k y0 y1 y2) (laws_markStringS.l0 (k + 1) y0 y1 y2))
 | 0 => fun _ _ _ r h => by simp [laws_markStringS.l0] at h
 | k + 1 => by
  have ih0 := laws_markStringS.mono_l k
  ·intro y0 y1 y2
   unfold laws_markStringS.l0
   repeat' first
   | (with_reducible exact ih0 _ _ _)
   | (with_reducible exact laws_markText.mono _ _)
   | (with_reducible exact LeO.refl _)
   | (with_reducible exact LeO.none _)
   | (with_reducible refine LeO.ite ?_ ?_)
   | (with_reducible refine LeO.bind ?_ (fun _ => ?_))
   | exact ih0 _ _ _
   | exact laws_markText.mono _ _
   | exact LeO.none _
   | refine LeO.ite ?_ ?_
   | refine LeO.bind ?_ (fun _ => ?_)
theorem laws_markStringS.mono : ∀ a0 a1 k, LeO (laws_markStringS.f k a0 a1) (laws_markStringS.f (k + 1) a0 a1) := by
 intro a0 a1 k
 have ih0 := laws_markStringS.mono_l k
 unfold laws_markStringS.f
 repeat' first
   | (with_reducible exact ih0 _ _ _)
   | (with_reducible exact laws_markText.mono _ _)
   | (with_reducible exact LeO.refl _)
   | (with_reducible exact LeO.none _)
   | (with_reducible refine LeO.ite ?_ ?_)
   | (with_reducible refine LeO.bind ?_ (fun _ => ?_))
   | exact ih0 _ _ _
   | exact laws_markText.mono _ _
   | exact LeO.none _
   | refine LeO.ite ?_ ?_
   | refine LeO.bind ?_ (fun _ => ?_)
set_option maxHeartbeats 8000000 in
set_option maxRecDepth 100000 in
theorem laws_markStringS.calls (k : Nat) (P0_ : Nat → Prop) (u9000_ : Value) (l0 : List ByteArray) (a1 : Int) (r1 : Int) (r2 : List ByteArray) (w0 w : World) (hB : Below w0.heap.size w0 w) (ho0 : Kd.R Kd.string 9 w w0.heap.size P0_ u9000_ l0) (h : laws_markStringS.f k l0 a1 = some (r1, r2)) :
  Calls Tryd.prog 24 #[u9000_, .int .i64 a1] w fun e w' => e = .returned (.int .i64 r1) ∧ Kd.R Kd.string 9 w' w0.heap.size (fun k_ => (P0_ k_ ∨ w.heap.size ≤ k_)) u9000_ r2 ∧ Below w0.heap.size w0 w' ∧ Kept w w' (fun k_ => P0_ k_) := by
 have HO0 := Aside0.mk (show Kd.R Kd.string 9 w w0.heap.size (fun k_ => (P0_ k_ ∨ w.heap.size ≤ k_)) u9000_ l0 from Kd.R_mono ho0 (fun k_ hk => (.inl hk)))
 have HK := Aside0.mk (Kept.refl w (fun k_ => P0_ k_))
 have HW0 := Aside0.mk hB.size
 have HB := Aside0.mk hB
 clear hB
 have H : (laws_markStringS.l0 k l0 a1 0) = some (r1, r2) := h
 clear h
 have H' := Aside0.mk H
 clear H
 go_enter Tryd.func24, Tryd.ntmps24
 go_wp2
 go_loopg [1, 5] k (fun kq v1 v5 w' => ∃ (x0_1 : List ByteArray) (x1_1 : Int) (x5_1 : Int), v1 = .int .i64 x1_1 ∧ v5 = .int .i64 x5_1 ∧ Aside0 (laws_markStringS.l0 kq x0_1 x1_1 x5_1 = some (r1, r2)) ∧ Aside0 (kq ≤ k) ∧ Aside0 (Kd.R Kd.string 9 w' w0.heap.size (fun k_ => (P0_ k_ ∨ w.heap.size ≤ k_)) u9000_ x0_1) ∧ Aside0 (Kept w w' (fun k_ => P0_ k_)) ∧ Aside0 (Below w0.heap.size w0 w'))
 case atStart => exact ⟨(l0), (a1), (0), (by first | rfl | (simp; done) | (simp [*]; done)), (by first | rfl | (simp; done) | (simp [*]; done)), H', ⟨Nat.le_refl _⟩, ⟨by (with_reducible repeat (first | apply Kd.R_alloc | apply Kd.R_drewN | apply Kd.R_drew)); exact HO0.out⟩, ⟨by repeat (first | (with_reducible first | exact HK.out | apply Kept.alloc | apply Kept.drewN | apply Kept.drew) | exact HK.out)⟩, ⟨by repeat (first | (with_reducible first | exact HB.out | apply below_alloc | apply pw_below_drewN | apply below_drew1) | exact HB.out)⟩⟩
 case round =>
  clear H'
  try clear c2
  try clear p2
  obtain ⟨x0_1, x1_1, x5_1, rfl, rfl, HA, HK1, HO_0, HK, HB⟩ := hrel
  cases gk with
  | zero => exact absurd HA.out (by simp [laws_markStringS.l0])
  | succ k1 =>
   have H := HA.out
   clear HA
   simp only [laws_markStringS.l0] at H
   by_cases c3 : x5_1 < (x0_1.length : Int)
   ·rw [if_pos c3] at H
    have c3b0 : decide (x5_1 < (x0_1.length : Int)) = true := decide_eq_true c3
    clear c3
    replace H := Option.bind_eq_some_iff.mp H
    obtain ⟨t166, A40, H⟩ := H
    replace H : (if 0 ≤ x5_1 then (laws_markStringS.l0 k1 (x0_1.set (x5_1 : Int).toNat t166) (wrap64 (x1_1 + 1)) (wrap64 (x5_1 + 1))) else (none)) = some (r1, r2) := H
    have A4 := Aside0.mk A40
    clear A40
    by_cases c5 : 0 ≤ x5_1
    ·rw [if_pos c5] at H
     have c5b0 : decide (0 ≤ x5_1) = true := decide_eq_true c5
     clear c5
     obtain ⟨y167, hy167⟩ : ∃ y_ : List ByteArray, y_ = (x0_1.set (x5_1 : Int).toNat t166) := ⟨_, rfl⟩
     replace H : (laws_markStringS.l0 k1 y167 (wrap64 (x1_1 + 1)) (wrap64 (x5_1 + 1))) = some (r1, r2) := by first | (rw [hy167]; with_reducible exact H) | (have H2_ := (Option.bind_some _ _).symm.trans H; rw [hy167]; with_reducible exact H2_) | (have H2_ := (Option.bind_some _ _).symm.trans H; with_reducible exact H2_) | with_reducible exact H | (rw [hy167]; exact H) | exact H
     have Ny167 := Aside0.mk hy167
     clear hy167
     have H' := Aside0.mk H
     clear H
     obtain ⟨Ao7, co7, eo7⟩ := Kd.R_slice HO_0.out
     subst eo7
     go_wp2_with (first | ((with_reducible refine gate_callee (f := 60) rfl ?_); refine goesL_ (some 15) rfl rfl Tryd.func60 (by kernel_rfl) rfl #[.int .i64 x1_1] rfl (by (try simp only [List.map_toArray, List.map_cons, List.map_nil]); first | done | rfl | (simp only [List.length_drop, List.length_take]; rfl)) ?_; (with_reducible refine (laws_markText.calls k1 x1_1 t166 _ A4.out).mono ?_); rintro e w8 ⟨rfl, hb⟩; refine ⟨_, rfl, ?_⟩; have n0_ := Aside0.mk (Kd.R_below (by (with_reducible repeat (first | apply Kd.R_alloc | apply Kd.R_drewN | apply Kd.R_drew)); exact HO_0.out) hb); have n1_ := Aside0.mk (Kept.below (S := (fun k_ => P0_ k_)) (by repeat (first | (with_reducible first | exact HK.out | apply Kept.alloc | apply Kept.drewN | apply Kept.drew) | exact HK.out)) hb); have n2_ := Aside0.mk (below_step (by repeat (first | (with_reducible first | exact HB.out | apply below_alloc | apply pw_below_drewN | apply below_drew1) | exact HB.out)) hb); clear HO_0; clear HK; clear HB; have HO_0 := n0_; have HK := n1_; have HB := n2_; clear n0_ n1_ n2_; (try clear hb); (try clear hb2); (try clear hk); (try clear hi); have p6 : 0 ≤ (x5_1 : Int) := of_decide_eq_true (by first | (with_reducible assumption) | assumption); have q6 : (x5_1 : Int) < ((x0_1.length : Int) : Int) := of_decide_eq_true (by first | (with_reducible assumption) | assumption); obtain ⟨go6, co6, eo6, gb6, gl6, cl6, HG6⟩ := Kd.R_form HO_0.out (by omega); (first | cases eo6 | (injection eo6 with ea_ en_ ec_; (first | subst ea_ | (injection ea_ with ea_; subst ea_)); subst ec_; clear en_)); have GB6 := Aside0.mk gb6; have GG6 := Aside0.mk HG6; clear gb6 gl6 HG6; have HMgo6 := Aside0.mk (show (P0_ go6 ∨ w.heap.size ≤ go6) from (HO_0.out.1 _ rfl)); obtain ⟨hx6_0, hf6_0⟩ := Kd.R_celln (⟨#[]⟩ : ByteArray) HO_0.out (x5_1 : Int) p6 q6; replace p6 := eq_true p6; replace q6 := eq_true q6; obtain ⟨hy9_, hz9_⟩ := Kd.R_celln (⟨#[]⟩ : ByteArray) HO_0.out (x5_1 : Int) (of_decide_eq_true (by first | (with_reducible assumption) | assumption)) (of_decide_eq_true (by first | (with_reducible assumption) | assumption)); have HP9 := Kd.R_putg HO_0.out (x5_1 : Int) t166) | ((with_reducible refine gate_store (t := 9) (p := 16) rfl ?_); refine store_event (t := 9) (p := 16) (v := ?vo_w10) (w1 := (w8.setCell ⟨go6, (x5_1 : Int).toNat, none⟩ (.string t166))) ?hg ?ho ?hn ?hr ?_; (case ho => rfl); (case hg => rfl); (case hn => rfl); (case hr => first | (go_simp; done) | (go_simp; rfl)); intro w10 hw; have hg : w8.grownBy w10 (some go6) := (by rw [hw]; exact HP9.2); have hp_ : Kd.R Kd.string 9 w10 w0.heap.size (fun k_ => (P0_ k_ ∨ w.heap.size ≤ k_)) (.slice (some ⟨go6, 0, none⟩) x0_1.length co7) y167 := (by rw [hw, Ny167.out]; exact HP9.1); clear HP9; have n0_ := Aside0.mk (hp_); have n1_ := Aside0.mk ((by rw [hw]; exact below_set (HB.out) GB6.out : Below w0.heap.size w0 w10)); have n2_ := Aside0.mk (Kept.of_grown (S := (fun k_ => P0_ k_)) hg (by repeat (first | (with_reducible first | exact HK.out | apply Kept.alloc | apply Kept.drewN | apply Kept.drew) | exact HK.out)) (fun k_ e_ => (HO_0.out.1 k_ e_))); clear HO_0; clear HB; clear HK; have HO_0 := n0_; have HB := n1_; have HK := n2_; clear n0_ n1_ n2_; clear hg hw hp_))
     go_roundg k1
     case measure => have := HK1.out; omega
     case rel => exact ⟨(y167), (wrap64 (x1_1 + 1)), (wrap64 (x5_1 + 1)), (by first | rfl | (simp; done) | (simp [*]; done)), (by first | rfl | (simp; done) | (simp [*]; done)), H', ⟨by have := HK1.out; omega⟩, ⟨by (with_reducible repeat (first | apply Kd.R_alloc | apply Kd.R_drewN | apply Kd.R_drew)); exact HO_0.out⟩, ⟨by repeat (first | (with_reducible first | exact HK.out | apply Kept.alloc | apply Kept.drewN | apply Kept.drew) | exact HK.out)⟩, ⟨by repeat (first | (with_reducible first | exact HB.out | apply below_alloc | apply pw_below_drewN | apply below_drew1) | exact HB.out)⟩⟩
    ·rw [if_neg c5] at H
     exact absurd H (by simp)
   ·rw [if_neg c3] at H
    have c3b0 : decide (x5_1 < (x0_1.length : Int)) = false := decide_eq_false c3
    clear c3
    simp only [Option.some.injEq, Prod.mk.injEq] at H
    obtain ⟨rfl, rfl⟩ := H
    obtain ⟨Ao11, co11, eo11⟩ := Kd.R_slice HO_0.out
    subst eo11
    go_wp2
    go_ret
    exact ⟨by first | rfl | (simp [errW_none, errW_some] <;> rfl) | (simp [*, errW_none, errW_some] <;> rfl), by (with_reducible repeat (first | apply Kd.R_alloc | apply Kd.R_drewN | apply Kd.R_drew)); exact HO_0.out, by repeat (first | (with_reducible first | exact HB.out | apply below_alloc | apply pw_below_drewN | apply below_drew1) | exact HB.out), by repeat (first | (with_reducible first | exact HK.out | apply Kept.alloc | apply Kept.drewN | apply Kept.drew) | exact HK.out)⟩

/-! ### laws_markLamps: function 23 -/
def laws_markLamps.f (k : Nat) (l0_0 : List ByteArray) (a1 : Int) : Option (Int × List ByteArray) := (laws_markStringS.f k l0_0 a1).bind fun bt169 => (some (bt169.1, bt169.2))
theorem laws_markLamps.mono : ∀ a0 a1 k, LeO (laws_markLamps.f k a0 a1) (laws_markLamps.f (k + 1) a0 a1) := by
 intro a0 a1 k
 unfold laws_markLamps.f
 repeat' first
   | (with_reducible exact laws_markStringS.mono _ _ _)
   | (with_reducible exact LeO.refl _)
   | (with_reducible exact LeO.none _)
   | (with_reducible refine LeO.ite ?_ ?_)
   | (with_reducible refine LeO.bind ?_ (fun _ => ?_))
   | exact laws_markStringS.mono _ _ _
   | exact LeO.none _
   | refine LeO.ite ?_ ?_
   | refine LeO.bind ?_ (fun _ => ?_)
set_option maxHeartbeats 8000000 in
set_option maxRecDepth 100000 in
theorem laws_markLamps.calls (k : Nat) (P0_0_ : Nat → Prop) (u9000_ : Value) (l0_0 : List ByteArray) (a1 : Int) (r1 : Int) (r2 : List ByteArray) (w0 w : World) (hB : Below w0.heap.size w0 w) (ho0_0 : Kd.R Kd.string 9 w w0.heap.size P0_0_ u9000_ l0_0) (h : laws_markLamps.f k l0_0 a1 = some (r1, r2)) :
  Calls Tryd.prog 23 #[.agg #[u9000_], .int .i64 a1] w fun e w' => e = .returned (.int .i64 r1) ∧ Kd.R Kd.string 9 w' w0.heap.size (fun k_ => (P0_0_ k_ ∨ w.heap.size ≤ k_)) u9000_ r2 ∧ Below w0.heap.size w0 w' ∧ Kept w w' (fun k_ => P0_0_ k_) := by
 have hu40 := Tryd.underlying40
 have HO0_0 := Aside0.mk (show Kd.R Kd.string 9 w w0.heap.size (fun k_ => (P0_0_ k_ ∨ w.heap.size ≤ k_)) u9000_ l0_0 from Kd.R_mono ho0_0 (fun k_ hk => (.inl hk)))
 have HK := Aside0.mk (Kept.refl w (fun k_ => P0_0_ k_))
 have HW0 := Aside0.mk hB.size
 have HB := Aside0.mk hB
 clear hB
 have H : ((laws_markStringS.f k l0_0 a1).bind fun bt169 => (some (bt169.1, bt169.2))) = some (r1, r2) := h
 clear h
 replace H := Option.bind_eq_some_iff.mp H
 obtain ⟨⟨t169, t170⟩, A30, H⟩ := H
 replace H : (some (t169, t170)) = some (r1, r2) := H
 have A3 := Aside0.mk A30
 clear A30
 simp only [Option.some.injEq, Prod.mk.injEq] at H
 obtain ⟨rfl, rfl⟩ := H
 obtain ⟨Ao4, co4, eo4⟩ := Kd.R_slice HO0_0.out
 subst eo4
 go_enter Tryd.func23, Tryd.ntmps23
 go_wp2_with (first | ((with_reducible refine gate_dst (N := 2) rfl ?_); refine box_event ?hg (N := 2) ?hd (cs := #[.slice Ao4 l0_0.length co4]) (t := 40) ?hr ?_; (case hd => rfl); (case hg => rfl); (case hr => first | (go_simp; done) | (go_simp; rfl)); intro gb168 hg w5 hbox hb; have n0_ := Aside0.mk (Kd.R_below (by (with_reducible repeat (first | apply Kd.R_alloc | apply Kd.R_drewN | apply Kd.R_drew)); exact HO0_0.out) hb); have n1_ := Aside0.mk (Kept.below (S := (fun k_ => P0_0_ k_)) (by repeat (first | (with_reducible first | exact HK.out | apply Kept.alloc | apply Kept.drewN | apply Kept.drew) | exact HK.out)) hb); have n2_ := Aside0.mk (below_step (by repeat (first | (with_reducible first | exact HB.out | apply below_alloc | apply pw_below_drewN | apply below_drew1) | exact HB.out)) hb); have n3_ := Aside0.mk (hbox); have n4_ := Aside0.mk ((by rw [hg]; exact (by first | exact HK.out.1 | exact (show Kept w _ (fun k_ => P0_0_ k_) from by repeat (first | (with_reducible first | exact HK.out | apply Kept.alloc | apply Kept.drewN | apply Kept.drew) | exact HK.out)).1) : w.heap.size ≤ gb168)); have n5_ := Aside0.mk ((by rw [hg]; exact (below_size (by repeat (first | (with_reducible first | exact HB.out | apply below_alloc | apply pw_below_drewN | apply below_drew1) | exact HB.out))) : w0.heap.size ≤ gb168)); clear HO0_0; clear HK; clear HB; have HO0_0 := n0_; have HK := n1_; have HB := n2_; have BK168 := n3_; have GW168 := n4_; have GE168 := n5_; clear n0_ n1_ n2_ n3_ n4_ n5_; clear hb hbox hg; have hcz6_0 : w5.cell? ⟨gb168, 0, none⟩ = some (.slice Ao4 l0_0.length co4) := (blk_cell BK168.out 0).trans rfl; have hfz6_0 := blk_frozen BK168.out 0) | ((with_reducible refine gate_callee (f := 24) rfl ?_); refine goesL_ (some 8) rfl rfl Tryd.func24 (by kernel_rfl) rfl #[.slice Ao4 l0_0.length co4, .int .i64 a1] rfl (by (try simp only [List.map_toArray, List.map_cons, List.map_nil]); first | done | rfl | (simp only [List.length_drop, List.length_take]; rfl)) ?_; (with_reducible refine (laws_markStringS.calls k (fun k_ => some k_ = (.slice Ao4 l0_0.length co4 : Value).ownBlock) (.slice Ao4 l0_0.length co4) l0_0 a1 t169 t170 w0 _ ?side1 ?side2 A3.out).mono ?_); (case side1 => repeat (first | (with_reducible first | exact HB.out | apply below_alloc | apply pw_below_drewN | apply below_drew1 | refine below_set ?_ GE168.out) | exact HB.out)); (case side2 => exact Kd.R_tight rfl HO0_0.out); rintro e w7 ⟨rfl, hy0, hb, hkp⟩; refine ⟨_, rfl, ?_⟩; have n0_ := Aside0.mk (Kd.R_reok rfl hy0 (fun k_ e_ => HO0_0.out.1 k_ e_)); have n1_ := Aside0.mk (blk_kept (by (with_reducible repeat (first | refine blk_drewN ?_ _ | refine blk_drew ?_ | refine blk_alloc ?_ _)); exact BK168.out) hkp (fun hs_ => (fun e_ => (Kd.R_ne HO0_0.out BK168.out (by decide)) e_) hs_)); have n2_ := Aside0.mk (Kept.then_ (S := (fun k_ => P0_0_ k_)) (by repeat (first | (with_reducible first | exact HK.out | apply Kept.alloc | apply Kept.drewN | apply Kept.drew | refine Kept.setCell ?_ (.inr GW168.out) _) | exact HK.out)) hkp (fun k_ hs_ => (fun e_ => (HO0_0.out.1 k_ e_.symm)) hs_)); have n3_ := Aside0.mk (hb); clear HO0_0; clear BK168; clear HK; clear HB; have HO0_0 := n0_; have BK168 := n1_; have HK := n2_; have HB := n3_; clear n0_ n1_ n2_ n3_; (try clear hb); (try clear hkp); (try clear hy0)))
 go_ret
 exact ⟨by first | rfl | (simp [errW_none, errW_some] <;> rfl) | (simp [*, errW_none, errW_some] <;> rfl), by (with_reducible repeat (first | apply Kd.R_alloc | apply Kd.R_drewN | apply Kd.R_drew)); exact HO0_0.out, by repeat (first | (with_reducible first | exact HB.out | apply below_alloc | apply pw_below_drewN | apply below_drew1 | refine below_set ?_ GE168.out) | exact HB.out), by repeat (first | (with_reducible first | exact HK.out | apply Kept.alloc | apply Kept.drewN | apply Kept.drew | refine Kept.setCell ?_ (.inr GW168.out) _) | exact HK.out)⟩

end Go.Proofs.YtpjdlobkeafacaaDoor.PCycleOfLamps
