-- squeezed (sq3.py); PRINTED by drive.py (a program of this session's, over the kit's print.py; wip/tools/drive.py). Lean checks it.
import Derived.Test.YtpdkjehplfgjcabGreatDoorQPHidx0
import Derived.Test.YtpdkjehplfgjcabGreatDoorQPHidx2
import Derived.Test.YtpdkjehplfgjcabGreatDoorQPHidx3
import Derived.Test.YtpdkjehplfgjcabGreatDoorQSq
namespace Go.Proofs.YtpdkjehplfgjcabGreatDoor.PHid
open Go.RowKit Go.Proofs.YtpdkjehplfgjcabGreatDoorW.PrintWords Go.Proofs.YtpdkjehplfgjcabGreatDoorW.PrintLast Go.Proofs.YtpdkjehplfgjcabGreatDoorW.PrintMore
attribute [local go_sem] max2_int min2_int max_two min_two max_three min_three max_four min_four   -- for this text's walks alone
set_option linter.unusedVariables false
set_option linter.unusedSimpArgs false

/-! ### impl_MakePuzzle: function 6 -/
-- by hand (wip/ext/MakePuzzle.tpl)
theorem impl_MakePuzzle.f1 : Tryz.prog.funcs[41]? = some Tryz.f41 ∧ (Tryz.f41.name == "runtime.NumGoroutine") = false ∧ Tryz.f41.body.isSome = true := ⟨Tryz.func41, by kernel_rfl, by kernel_rfl⟩
/-- The next number. -/
def nxN (z : Nat) : Nat := (z * 181 + 2477) % 10007
theorem nxN_lt (z : Nat) : nxN z < 10007 := Nat.mod_lt _ (by decide)
theorem nxN_int (z : Nat) (hz : z < 10007) : Int.tmod (wrap64 (wrap64 ((z : Int) * 181) + 2477)) 10007 = (nxN z : Int) := by
  rw [w64 (a := (z : Int) * 181) (by omega) (by omega), w64 (by omega) (by omega), Int.tmod_eq_emod_of_nonneg (by omega)]
  unfold nxN
  omega
theorem tmodN (a b : Nat) : Int.tmod (a : Int) (b : Int) = ((a % b : Nat) : Int) := by
  rw [Int.tmod_eq_emod_of_nonneg (by omega)]
  rfl
set_option maxHeartbeats 400000 in
theorem impl_MakePuzzle.c1 (g z : Nat) (w : World) (hg : w.heap[g]? = some (.cells #[.int .i64 z] 3 (0, 0))) (hz : z < 10007) :
    Calls Tryz.prog 41 #[.pointer (some ⟨g, 0, none⟩)] w fun e w' => e = .returned (.int .i64 (nxN z)) ∧ w' = w.setCell ⟨g, 0, none⟩ (.int .i64 (nxN z)) := by
  have hc := (blk_cell hg 0).trans rfl
  have hf := blk_frozen hg 0
  have hc2 := (blk_cell (blk_put hg 0 (.int .i64 (nxN z)) rfl) 0).trans rfl
  have hn := nxN_int z hz
  have HG := aM hg
  clear hg hz
  go_enter Tryz.func41, Tryz.ntmps41
  go_wp2
  go_ret
  exact ⟨rfl, rfl⟩
def kdN (z : Nat) : Nat := nxN z % 5
def argN (s : ByteArray) (z : Nat) : Nat := if kdN z = 0 ∨ kdN z = 4 then nxN (nxN z) % s.size else if kdN z = 2 then nxN (nxN z) % 8 + 2 else if kdN z = 3 then nxN (nxN z) % 2 ^ s.size else 0
def toldP (s : ByteArray) (z : Nat) : Option (Int × Int × Int) := impl_Clue_told.f 40 (kdN z : Nat) (argN s z : Nat) 0 s
def mkP (s : ByteArray) : Nat → Nat → List S40 → Option (List S40)
  | 0, _, acc => some acc
  | n + 1, z, acc => (toldP s z).bind fun c => mkP s n (nxN (nxN z)) (acc ++ [⟨c.1, c.2.1, c.2.2⟩])
def impl_MakePuzzle.f (a0 : ByteArray) (a1 a2 : Int) : Option (Int × List S40 × Bool) := (impl_isHidden.f a0).bind fun t => if t = true then (if inB a1 0 6 = true then (if inB a2 0 9999 = true then (if 0 < a0.size ∧ a0.size ≤ 7 then (mkP a0 a1.toNat a2.toNat []).bind fun L => some ((a0.size : Int), L, true) else none) else some (0, [], false)) else some (0, [], false)) else some (0, [], false)
set_option maxHeartbeats 2000000 in
set_option maxRecDepth 100000 in
theorem impl_MakePuzzle.calls (a0 : ByteArray) (a1 a2 : Int) (r1 : Int) (r2 : List S40) (r3 : Bool) (w : World) (h : impl_MakePuzzle.f a0 a1 a2 = some (r1, r2, r3)) :
    Calls Tryz.prog 6 #[.string a0, .int .i64 a1, .int .i64 a2] w fun e w' => ∃ v1_ : Value, e = .returned (.tuple #[.agg #[.int .i64 r1, v1_], .bool r3]) ∧ Kd.R k40 40 w' w.heap.size (fun _ => True) v1_ r2 ∧ Below w.heap.size w w' := by
 unfold impl_MakePuzzle.f at h
 have h0 := h
 clear h
 obtain ⟨b, hhid, h⟩ := Option.bind_eq_some_iff.mp h0
 clear h0
 have hu := Tryz.underlying28
 have hu2 := Tryz.underlying40
 have HH := aM (fun W => impl_isHidden.calls a0 b W hhid)
 have HI1 := aM (fun w1 => impl_in.calls a1 0 6 _ w1 (inB_ite a1 0 6))
 have HI2 := aM (fun w1 => impl_in.calls a2 0 9999 _ w1 (inB_ite a2 0 9999))
 have HB0 := aM (show Below w.heap.size w (w.alloc (.cells #[.int .i64 0, .slice none 0 0] 28)) from (Below.refl _ w).alloc (Nat.le_refl _) _)
 have BKR0 := aM (MapKept.heap_alloc w (.cells #[.int .i64 0, .slice none 0 0] 28)).1
 clear hhid
 cases b with
 | false =>
  simp only [Bool.false_eq_true, if_false, Option.some.injEq, Prod.mk.injEq] at h
  obtain ⟨rfl, rfl, rfl⟩ := h
  go_enter Tryz.func6, Tryz.ntmps6
  go_wp2_with (first | (go_at_call 39; refine (HH.out _).mono ?_; rintro e w1 ⟨rfl, hb⟩; have HB1 := aM (below_step HB0.out hb); have BKR1 := aM (blk_below BKR0.out hb); have hcR1 := (blk_cell BKR1.out 0).trans rfl; have hcR2 := (blk_cell BKR1.out 1).trans rfl; have hfR1 := blk_frozen BKR1.out 0; have hfR2 := blk_frozen BKR1.out 1; clear hb))
  refine bodyPost_ret (results_ct rfl _ _ w.heap.size 28 #[.int .i64 0, .slice none 0 0] (0, 0) _ rfl (blk_put (cs' := #[.int .i64 0, .slice none 0 0]) (blk_put (cs' := #[.int .i64 0, .slice none 0 0]) BKR1.out 0 _ rfl) 1 _ rfl) Tryz.underlying28 rfl (by kernel_rfl)) rfl ?_
  exact ⟨_, rfl, Kd.R_nil _ _ _ _ _, below_setCell (below_setCell HB1.out w.heap.size 0 _ (Nat.le_refl _)) w.heap.size 1 _ (Nat.le_refl _)⟩
 | true =>
  simp only [if_true] at h
  obtain ⟨B1, hB1⟩ : ∃ B, B = inB a1 0 6 := ⟨_, rfl⟩
  rw [← hB1] at h HI1
  cases B1 with
  | false =>
   simp only [Bool.false_eq_true, if_false, Option.some.injEq, Prod.mk.injEq] at h
   clear hB1
   obtain ⟨rfl, rfl, rfl⟩ := h
   go_enter Tryz.func6, Tryz.ntmps6
   go_wp2_with (first | (go_at_call 39; refine (HH.out _).mono ?_; rintro e w1 ⟨rfl, hb⟩; have HB1 := aM (below_step HB0.out hb); have BKR1 := aM (blk_below BKR0.out hb); have hcR1 := (blk_cell BKR1.out 0).trans rfl; have hcR2 := (blk_cell BKR1.out 1).trans rfl; have hfR1 := blk_frozen BKR1.out 0; have hfR2 := blk_frozen BKR1.out 1; clear hb) | (go_at_call 40; (with_reducible refine (HI1.out _).mono ?_); rintro e w2 ⟨rfl, ⟨n2, rfl⟩⟩; have HB2 := aM (below_step HB1.out (pw_below_drewN (Below.refl _ _) n2)); have BKR2 := aM (blk_drewN BKR1.out n2)))
   refine bodyPost_ret (results_ct rfl _ _ w.heap.size 28 #[.int .i64 0, .slice none 0 0] (0, 0) _ rfl (blk_put (cs' := #[.int .i64 0, .slice none 0 0]) (blk_put (cs' := #[.int .i64 0, .slice none 0 0]) BKR2.out 0 _ rfl) 1 _ rfl) Tryz.underlying28 rfl (by kernel_rfl)) rfl ?_
   exact ⟨_, rfl, Kd.R_nil _ _ _ _ _, below_setCell (below_setCell HB2.out w.heap.size 0 _ (Nat.le_refl _)) w.heap.size 1 _ (Nat.le_refl _)⟩
  | true =>
   simp only [if_true] at h
   obtain ⟨B2, hB2⟩ : ∃ B, B = inB a2 0 9999 := ⟨_, rfl⟩
   rw [← hB2] at h HI2
   cases B2 with
   | false =>
    simp only [Bool.false_eq_true, if_false, Option.some.injEq, Prod.mk.injEq] at h
    clear hB1 hB2
    obtain ⟨rfl, rfl, rfl⟩ := h
    go_enter Tryz.func6, Tryz.ntmps6
    go_wp2_with (first | (go_at_call 39; refine (HH.out _).mono ?_; rintro e w1 ⟨rfl, hb⟩; have HB1 := aM (below_step HB0.out hb); have BKR1 := aM (blk_below BKR0.out hb); have hcR1 := (blk_cell BKR1.out 0).trans rfl; have hcR2 := (blk_cell BKR1.out 1).trans rfl; have hfR1 := blk_frozen BKR1.out 0; have hfR2 := blk_frozen BKR1.out 1; clear hb) | (go_at_call 40; (with_reducible refine (HI1.out _).mono ?_); rintro e w2 ⟨rfl, ⟨n2, rfl⟩⟩; have HB2 := aM (below_step HB1.out (pw_below_drewN (Below.refl _ _) n2)); have BKR2 := aM (blk_drewN BKR1.out n2)) | (go_at_call 40; (with_reducible refine (HI2.out _).mono ?_); rintro e w3 ⟨rfl, ⟨n3, rfl⟩⟩; have HB3 := aM (below_step HB1.out (pw_below_drewN (Below.refl _ _) (n2 + n3))); have BKR3 := aM (blk_drewN BKR1.out (n2 + n3))))
    refine bodyPost_ret (results_ct rfl _ _ w.heap.size 28 #[.int .i64 0, .slice none 0 0] (0, 0) _ rfl (blk_put (cs' := #[.int .i64 0, .slice none 0 0]) (blk_put (cs' := #[.int .i64 0, .slice none 0 0]) BKR3.out 0 _ rfl) 1 _ rfl) Tryz.underlying28 rfl (by kernel_rfl)) rfl ?_
    exact ⟨_, rfl, Kd.R_nil _ _ _ _ _, below_setCell (below_setCell HB3.out w.heap.size 0 _ (Nat.le_refl _)) w.heap.size 1 _ (Nat.le_refl _)⟩
   | true =>
    simp only [if_true] at h
    have lo1 := inB_lo hB1.symm
    have hi1 := inB_hi hB1.symm
    have lo2 := inB_lo hB2.symm
    have hi2 := inB_hi hB2.symm
    clear hB1 hB2
    obtain ⟨n0, rfl⟩ : ∃ n : Nat, a1 = n := ⟨a1.toNat, by omega⟩
    obtain ⟨z0, rfl⟩ : ∃ z : Nat, a2 = z := ⟨a2.toNat, by omega⟩
    split at h
    case isFalse => cases h
    case isTrue hsz =>
    have h0 := h
    clear h
    obtain ⟨L, hL, h⟩ := Option.bind_eq_some_iff.mp h0
    clear h0
    simp only [Option.some.injEq, Prod.mk.injEq, Int.toNat_natCast] at h hL
    obtain ⟨rfl, rfl, rfl⟩ := h
    have HL := aM hL
    have HSZ := aM hsz
    have HZ0 := aM (show z0 < 10007 by omega)
    have HN0 := aM (show n0 ≤ 6 by omega)
    clear hL hsz lo1 hi1 lo2 hi2
    have hmf : ∀ (fn : Fn) (first cap : Array Value) (w : World), (Instr.makeFunc fn first cap).run Tryz.prog w = .ok (.func fn first cap) w := fun _ _ _ _ => rfl
    go_enter Tryz.func6, Tryz.ntmps6
    go_wp2_with (first | (go_at_call 39; refine (HH.out _).mono ?_; rintro e w1 ⟨rfl, hb⟩; have HB1 := aM (below_step HB0.out hb); have BKR1 := aM (blk_below BKR0.out hb); clear hb) | (go_at_call 40; (with_reducible refine (HI1.out _).mono ?_); rintro e w2 ⟨rfl, ⟨n2, rfl⟩⟩; have HB2 := aM (below_step HB1.out (pw_below_drewN (Below.refl _ _) n2)); have BKR2 := aM (blk_drewN BKR1.out n2)) | (go_at_call 40; (with_reducible refine (HI2.out _).mono ?_); rintro e w3 ⟨rfl, ⟨n3, rfl⟩⟩; have HB3 := aM (below_step HB1.out (pw_below_drewN (Below.refl _ _) (n2 + n3))); have BKR3 := aM (blk_drewN BKR1.out (n2 + n3))) | ((with_reducible refine gate_dst (N := 8) rfl ?_); refine box_event ?hg (N := 8) ?hd (cs := #[.int .i64 0]) (t := 3) ?hr ?_; (case hd => rfl); (case hg => rfl); (case hr => first | (go_simp; done) | (go_simp; rfl)); intro gz hgz w4 hbox hb; have HB4 := aM (below_step HB3.out hb); have BKR4 := aM (blk_below BKR3.out hb); have HGZ := aM (show w.heap.size < gz from hgz ▸ blk_lt BKR3.out); have hcz := (blk_cell hbox 0).trans rfl; have hfz := blk_frozen hbox 0; have BKZ4 := aM hbox; clear hbox hb hgz) | ((with_reducible refine gate_dst (N := 10) rfl ?_); refine box_event ?hg (N := 10) ?hd (cs := #[.int .i64 0, .slice none 0 0]) (t := 28) ?hr ?_; (case hd => rfl); (case hg => rfl); (case hr => first | (go_simp; done) | (go_simp; rfl)); intro gp hgp w5 hbox hb; clear hcz hfz; have HB5 := aM (below_step (below_setCell HB4.out gz 0 _ (Nat.le_of_lt HGZ.out)) hb); have BKR5 := aM (blk_below (blk_far (p := ⟨gz, 0, none⟩) BKR4.out (Nat.ne_of_lt HGZ.out) _) hb); have BKZ5 := aM (blk_below (blk_put (cs' := #[.int .i64 z0]) BKZ4.out 0 _ rfl) hb); have HGP := aM (show w.heap.size < gp from hgp ▸ blk_lt (blk_far (p := ⟨gz, 0, none⟩) BKR4.out (Nat.ne_of_lt HGZ.out) _)); have hcp0 := (blk_cell hbox 0).trans rfl; have hcp1 := (blk_cell hbox 1).trans rfl; have hfp0 := blk_frozen hbox 0; have hfp1 := blk_frozen hbox 1; have BKP5 := aM hbox; clear hbox hb hgp))
    have hzp : gz ≠ gp := blk_ne BKZ5.out BKP5.out (by decide)
    have hrz : w.heap.size ≠ gz := Nat.ne_of_lt HGZ.out
    have hrp : w.heap.size ≠ gp := Nat.ne_of_lt HGP.out
    have HZP := aM hzp
    have HRZ := aM hrz
    have HRP := aM hrp
    have HB6 := aM (below_setCell (below_setCell HB5.out gp 0 (.int .i64 (a0.size : Int)) (Nat.le_of_lt HGP.out)) gp 1 (.slice none 0 0) (Nat.le_of_lt HGP.out))
    have BKR6 := aM (blk_far (p := ⟨gp, 1, none⟩) (blk_far (p := ⟨gp, 0, none⟩) BKR5.out hrp (.int .i64 (a0.size : Int))) hrp (.slice none 0 0))
    have BKZ6 := aM (blk_far (p := ⟨gp, 1, none⟩) (blk_far (p := ⟨gp, 0, none⟩) BKZ5.out hzp (.int .i64 (a0.size : Int))) hzp (.slice none 0 0))
    have BKP6 := aM (blk_put (cs' := #[.int .i64 (a0.size : Int), .slice none 0 0]) (blk_put (cs' := #[.int .i64 (a0.size : Int), .slice none 0 0]) BKP5.out 0 (.int .i64 (a0.size : Int)) rfl) 1 (.slice none 0 0) rfl)
    clear hzp hrz hrp BKP5 BKZ5 BKR5 HB5 hcp0 hcp1 hfp0 hfp1 BKR4 HB4 BKZ4 BKR3 HB3 BKR2 HB2 BKR1 HB1 BKR0 HB0 HH HI1 HI2
    generalize (w5.setCell ⟨gp, 0, none⟩ (.int .i64 (a0.size : Int))).setCell ⟨gp, 1, none⟩ (.slice none 0 0) = W0 at HB6 BKR6 BKZ6 BKP6 ⊢
    go_loopg [33] n0 (fun gg v33 w' => ∃ (k z : Nat) (T : List S40) (v : Value), k + gg = n0 ∧ v33 = .int .i64 k ∧ Aside0 (z < 10007) ∧ Aside0 (T.length = k) ∧ Aside0 (mkP a0 (n0 - k) z T = some L) ∧ Aside0 (w'.heap[w.heap.size]? = some (.cells #[.int .i64 0, .slice none 0 0] 28 (0, 0))) ∧ Aside0 (w'.heap[gz]? = some (.cells #[.int .i64 z] 3 (0, 0))) ∧ Aside0 (w'.heap[gp]? = some (.cells #[.int .i64 (a0.size : Int), v] 28 (0, 0))) ∧ Aside0 (Kd.R k40 40 w' w.heap.size (fun _ => True) v T) ∧ Aside0 (Below w.heap.size w w'))
    case atStart => exact ⟨0, z0, [], _, by omega, rfl, HZ0, ⟨rfl⟩, HL, BKR6, BKZ6, BKP6, ⟨Kd.R_nil _ _ _ _ _⟩, HB6⟩
    case round =>
     clear BKP6 BKZ6 BKR6 HB6
     obtain ⟨k, z, T, v, hks, rfl, HZ, HTL, HM, BKR, BKZ, BKP, HO, HB⟩ := hrel
     by_cases hp : k < n0
     ·have hm := HM.out
      rw [show n0 - k = (n0 - (k + 1)) + 1 by omega, mkP] at hm
      obtain ⟨⟨r1, r2, r3⟩, ht, hm⟩ := Option.bind_eq_some_iff.mp hm
      have HM2 := aM hm
      unfold toldP at ht
      clear hm HM
      have hzN := nxN_lt z
      have hk5 : Int.tmod (nxN z : Int) 5 = ((kdN z : Nat) : Int) := tmodN (nxN z) 5
      have hkl : kdN z < 5 := Nat.mod_lt _ (by decide)
      obtain ⟨arg, harg⟩ : ∃ a, a = argN a0 z := ⟨_, rfl⟩
      rw [← harg] at ht
      unfold argN at harg
      obtain ⟨kd, hkd⟩ : ∃ k, k = kdN z := ⟨_, rfl⟩
      rw [← hkd] at ht hk5 hkl harg
      clear hkd hzN
      have hcs : kd = 0 ∨ kd = 1 ∨ kd = 2 ∨ kd = 3 ∨ kd = 4 := by omega
      clear hkl
      rcases hcs with rfl | rfl | rfl | rfl | rfl
      ·have hk5 : Int.tmod (nxN z : Int) 5 = 0 := hk5
       have ht : impl_Clue_told.f 40 0 (arg : Int) 0 a0 = some (r1, r2, r3) := ht
       have HTD := aM ht
       clear ht
       rw [if_pos (Or.inl rfl)] at harg
       have hv : Int.tmod (nxN (nxN z) : Int) (a0.size : Int) = (arg : Int) := by rw [harg]; exact tmodN _ _
       have hs0 : ¬ a0.size = 0 := by have := HSZ.out; omega
       have hs1 : ((a0.size : Int) == 0) = false := beq_eq_false_iff_ne.2 (by omega)
       clear harg
       go_wp2_with (first | ((with_reducible refine gate_dst (N := 36) rfl ?_); go_must (refine goesC_ (some 36) rfl rfl #[.pointer (some ⟨gz, 0, none⟩)] impl_MakePuzzle.f1 #[] rfl rfl (by (try simp only [List.map_toArray, List.map_cons, List.map_nil]); first | done | rfl) ?_; refine (impl_MakePuzzle.c1 gz z wr BKZ.out HZ.out).mono ?_; rintro e w2 ⟨rfl, hw⟩; refine ⟨_, rfl, ?_⟩; have HB2 := aM (show Below w.heap.size w w2 by rw [hw]; exact below_setCell HB.out gz 0 _ (Nat.le_of_lt HGZ.out)); have BKR2 := aM (show w2.heap[w.heap.size]? = some (.cells #[.int .i64 0, .slice none 0 0] 28 (0, 0)) by rw [hw]; exact blk_far (p := ⟨gz, 0, none⟩) BKR.out HRZ.out _); have BKZ2 := aM (show w2.heap[gz]? = some (.cells #[.int .i64 (nxN z)] 3 (0, 0)) by rw [hw]; exact blk_put BKZ.out 0 _ rfl); have BKP2 := aM (show w2.heap[gp]? = some (.cells #[.int .i64 (a0.size : Int), v] 28 (0, 0)) by rw [hw]; exact blk_far (p := ⟨gz, 0, none⟩) BKP.out (Ne.symm HZP.out) _); have HO2 := aM (show Kd.R k40 40 w2 w.heap.size (fun _ => True) v T by rw [hw]; exact Kd.R_set HO.out BKZ.out (by decide) 0 _); clear hw HB BKR BKZ BKP HO)) | ((with_reducible refine gate_dst (N := 11) rfl ?_); refine box_event ?hg (N := 11) ?hd (cs := #[.int .i64 0, .int .i64 0, .int .i64 0]) (t := 40) ?hr ?_; (case hd => rfl); (case hg => rfl); (case hr => first | (go_simp; done) | (go_simp; rfl)); intro gc hgc w3 hbox hb; have HB3 := aM (below_step HB2.out hb); have BKR3 := aM (blk_below BKR2.out hb); have BKZ3 := aM (blk_below BKZ2.out hb); have BKP3 := aM (blk_below BKP2.out hb); have HO3 := aM (Kd.R_below (Kd.R_mono (ok' := fun k => k ≠ gc) (Kd.R_bound HO2.out) (fun k hk => hgc ▸ Nat.ne_of_lt hk.2.2.1)) hb); have HRC := aM (show w.heap.size ≠ gc from hgc ▸ Nat.ne_of_lt (blk_lt BKR2.out)); have HGC := aM (show w.heap.size ≤ gc from hgc ▸ Nat.le_of_lt (blk_lt BKR2.out)); have HZC := aM (show gz ≠ gc from hgc ▸ Nat.ne_of_lt (blk_lt BKZ2.out)); have HPC := aM (show gp ≠ gc from hgc ▸ Nat.ne_of_lt (blk_lt BKP2.out)); have hcc0 := (blk_cell hbox 0).trans rfl; have hcc1 := (blk_cell hbox 1).trans rfl; have hcc2 := (blk_cell hbox 2).trans rfl; have hfc0 := blk_frozen hbox 0; have hfc1 := blk_frozen hbox 1; have hfc2 := blk_frozen hbox 2; have BKC3 := aM hbox; clear HB2 BKR2 BKZ2 BKP2 HO2; clear hbox hb hgc) | ((with_reducible refine gate_dst (N := 40) rfl ?_); go_must (refine goesC_ (some 40) rfl rfl #[.pointer (some ⟨gz, 0, none⟩)] impl_MakePuzzle.f1 #[] rfl rfl (by (try simp only [List.map_toArray, List.map_cons, List.map_nil]); first | done | rfl) ?_; refine (impl_MakePuzzle.c1 gz (nxN z) _ (blk_far (p := ⟨gc, 2, none⟩) (blk_far (p := ⟨gc, 1, none⟩) (blk_far (p := ⟨gc, 0, none⟩) BKZ3.out HZC.out _) HZC.out _) HZC.out _) (nxN_lt z)).mono ?_; rintro e w4 ⟨rfl, hw⟩; refine ⟨_, rfl, ?_⟩; clear hcc0 hcc1 hcc2 hfc0 hfc1 hfc2; have HB4 := aM (show Below w.heap.size w w4 by rw [hw]; exact below_setCell (below_setCell (below_setCell (below_setCell HB3.out gc 0 _ HGC.out) gc 1 _ HGC.out) gc 2 _ HGC.out) gz 0 _ (Nat.le_of_lt HGZ.out)); have BKR4 := aM (show w4.heap[w.heap.size]? = some (.cells #[.int .i64 0, .slice none 0 0] 28 (0, 0)) by rw [hw]; exact blk_far (p := ⟨gz, 0, none⟩) (blk_far (p := ⟨gc, 2, none⟩) (blk_far (p := ⟨gc, 1, none⟩) (blk_far (p := ⟨gc, 0, none⟩) BKR3.out HRC.out _) HRC.out _) HRC.out _) HRZ.out _); have BKZ4 := aM (show w4.heap[gz]? = some (.cells #[.int .i64 (nxN (nxN z))] 3 (0, 0)) by rw [hw]; exact blk_put (blk_far (p := ⟨gc, 2, none⟩) (blk_far (p := ⟨gc, 1, none⟩) (blk_far (p := ⟨gc, 0, none⟩) BKZ3.out HZC.out _) HZC.out _) HZC.out _) 0 _ rfl); have BKP4 := aM (show w4.heap[gp]? = some (.cells #[.int .i64 (a0.size : Int), v] 28 (0, 0)) by rw [hw]; exact blk_far (p := ⟨gz, 0, none⟩) (blk_far (p := ⟨gc, 2, none⟩) (blk_far (p := ⟨gc, 1, none⟩) (blk_far (p := ⟨gc, 0, none⟩) BKP3.out HPC.out _) HPC.out _) HPC.out _) (Ne.symm HZP.out) _); have BKC4 := aM (show w4.heap[gc]? = some (.cells #[.int .i64 0, .int .i64 0, .int .i64 0] 40 (0, 0)) by rw [hw]; exact blk_far (p := ⟨gz, 0, none⟩) (blk_put (cs' := #[.int .i64 0, .int .i64 0, .int .i64 0]) (blk_put (cs' := #[.int .i64 0, .int .i64 0, .int .i64 0]) (blk_put (cs' := #[.int .i64 0, .int .i64 0, .int .i64 0]) BKC3.out 0 _ rfl) 1 _ rfl) 2 _ rfl) (Ne.symm HZC.out) _); have HO4 := aM (show Kd.R k40 40 w4 w.heap.size (fun k => k ≠ gc) v T by rw [hw]; exact Kd.R_set (Kd.R_far (p := ⟨gc, 2, none⟩) (Kd.R_far (p := ⟨gc, 1, none⟩) (Kd.R_far (p := ⟨gc, 0, none⟩) HO3.out (fun _ hk => hk) _) (fun _ hk => hk) _) (fun _ hk => hk) _) (blk_far (p := ⟨gc, 2, none⟩) (blk_far (p := ⟨gc, 1, none⟩) (blk_far (p := ⟨gc, 0, none⟩) BKZ3.out HZC.out _) HZC.out _) HZC.out _) (by decide) 0 _); have hck := (blk_cell BKC4.out 0).trans rfl; have hca := (blk_cell BKC4.out 1).trans rfl; have hfa := blk_frozen BKC4.out 1; clear hw HB3 BKR3 BKZ3 BKP3 HO3 BKC3)))
       have HB7 := aM (below_setCell HB4.out gc 1 (.int .i64 (arg : Int)) HGC.out)
       have BKR7 := aM (blk_far (p := ⟨gc, 1, none⟩) BKR4.out HRC.out (.int .i64 (arg : Int)))
       have BKZ7 := aM (blk_far (p := ⟨gc, 1, none⟩) BKZ4.out HZC.out (.int .i64 (arg : Int)))
       have BKP7 := aM (blk_far (p := ⟨gc, 1, none⟩) BKP4.out HPC.out (.int .i64 (arg : Int)))
       have BKC7 := aM (blk_put (cs' := #[.int .i64 0, .int .i64 arg, .int .i64 0]) BKC4.out 1 (.int .i64 (arg : Int)) rfl)
       have HO7 := aM (Kd.R_far (p := ⟨gc, 1, none⟩) HO4.out (fun _ hk => hk) (.int .i64 (arg : Int)))
       clear HB4 BKR4 BKZ4 BKP4 BKC4 HO4 hck hca hfa
       generalize w4.setCell ⟨gc, 1, none⟩ (.int .i64 (arg : Int)) = W7 at HB7 BKR7 BKZ7 BKP7 BKC7 HO7 ⊢
       refine start_ (n := 9) (S := fun w' => w'.cell? ⟨gp, 1, none⟩ = some v ∧ w'.cell? ⟨gc, 0, none⟩ = some (.int .i64 0) ∧ w'.cell? ⟨gc, 1, none⟩ = some (.int .i64 (arg : Int)) ∧ w'.cell? ⟨gc, 2, none⟩ = some (.int .i64 0)) (ds := [8]) (bn 9 0) (by kernel_rfl) rfl rfl ⟨(blk_cell BKP7.out 1).trans rfl, (blk_cell BKC7.out 0).trans rfl, (blk_cell BKC7.out 1).trans rfl, (blk_cell BKC7.out 2).trans rfl⟩ (fun hHeld => ?_)
       have n0_ := aM (Kd.R_drew HO7.out)
       have n1_ := aM (blk_drew BKR7.out)
       have n2_ := aM (blk_drew BKZ7.out)
       have n3_ := aM (blk_drew BKP7.out)
       have n4_ := aM (blk_drew BKC7.out)
       have n5_ := aM (below_drew1 HB7.out)
       clear HO7 BKR7 BKZ7 BKP7 BKC7 HB7
       have HO7 := n0_
       have BKR7 := n1_
       have BKZ7 := n2_
       have BKP7 := n3_
       have BKC7 := n4_
       have HB7 := n5_
       clear n0_ n1_ n2_ n3_ n4_ n5_
       generalize W7.drew = W8 at HO7 BKR7 BKZ7 BKP7 BKC7 HB7 hHeld ⊢
       refine pure_ (i := 0) (N := some 65) (v := ?_) (a' := ?_) (bn 9 1) rfl rfl (by kernel_rfl) (fun _ _ _ h => h) (Or.inl ⟨by rfl, ?_⟩) ?_ ?_
       rotate_left
       ·intro w'
        go_simp
        with_reducible rfl
       rotate_left
       ·simp only [Act.put, List.setIfInBounds_toArray, List.set_cons_zero, List.set_cons_succ, i64_w, i32_w]
        rfl
       refine pure_ (i := 3) (N := some 68) (v := ?_) (a' := ?_) (bn 9 9) rfl rfl (by kernel_rfl) (fun _ _ _ h => h) (Or.inl ⟨by rfl, ?_⟩) ?_ ?_
       rotate_left
       ·intro w'
        go_simp
        with_reducible rfl
       rotate_left
       ·simp only [Act.put, List.setIfInBounds_toArray, List.set_cons_zero, List.set_cons_succ, i64_w, i32_w]
        rfl
       refine take_ (i := 1) (N := some 66) (v := ?_) (a' := ?_) (bn 9 11) rfl rfl (by kernel_rfl) (fun _ _ _ h => h) (Or.inl ⟨by rfl, ?_⟩) hHeld ?_ ?_
       rotate_left
       ·rintro w' ⟨s0, s1, s2, s3⟩
        go_simp
        with_reducible rfl
       rotate_left
       ·simp only [Act.put, List.setIfInBounds_toArray, List.set_cons_zero, List.set_cons_succ, i64_w, i32_w]
        rfl
       refine take_ (i := 2) (N := some 67) (v := ?_) (a' := ?_) (bn 9 15) rfl rfl (by kernel_rfl) (fun _ _ _ h => h) (Or.inl ⟨by rfl, ?_⟩) hHeld ?_ ?_
       rotate_left
       ·rintro w' ⟨s0, s1, s2, s3⟩
        go_simp
        with_reducible rfl
       rotate_left
       ·simp only [Act.put, List.setIfInBounds_toArray, List.set_cons_zero, List.set_cons_succ, i64_w, i32_w]
        rfl
       refine one_ (i := 4) (N := some 69) (bn 9 31) rfl rfl (by kernel_rfl) (by decide) (fun K_ hK => ?_)
       refine goes_ Tryz.func42 (by kernel_rfl) rfl #[.agg #[.int .i64 0, .int .i64 (arg : Int), .int .i64 0], .string a0] (by rfl) rfl rfl (by (try simp only [List.map_toArray, List.map_cons, List.map_nil]); first | done | rfl) ?_
       refine (impl_Clue_told.calls 40 0 (arg : Int) 0 a0 r1 r2 r3 _ HTD.out).mono ?_
       rintro e w9 ⟨rfl, hb⟩
       refine ⟨_, rfl, ?_⟩
       have n0_ := aM (Kd.R_below HO7.out hb)
       have n1_ := aM (blk_below BKR7.out hb)
       have n2_ := aM (blk_below BKZ7.out hb)
       have n3_ := aM (blk_below BKP7.out hb)
       have n4_ := aM (blk_below BKC7.out hb)
       have n5_ := aM (below_step HB7.out hb)
       clear HO7 BKR7 BKZ7 BKP7 BKC7 HB7 hb
       have HO7 := n0_
       have BKR7 := n1_
       have BKZ7 := n2_
       have BKP7 := n3_
       have BKC7 := n4_
       have HB7 := n5_
       clear n0_ n1_ n2_ n3_ n4_ n5_
       refine hK.out _ _ ⟨(blk_cell BKP7.out 1).trans rfl, (blk_cell BKC7.out 0).trans rfl, (blk_cell BKC7.out 1).trans rfl, (blk_cell BKC7.out 2).trans rfl⟩ (fun hHeld => ?_)
       clear hK K_
       refine norm_ (a' := ?_) ?_ ?_
       rotate_left
       ·show Act.put _ (some 69) _ = _
        simp only [Act.put, List.setIfInBounds_toArray, List.set_cons_zero, List.set_cons_succ, i64_w, i32_w]
        rfl
       refine one_ (i := 5) (N := some 70) (bn 9 63) rfl rfl (by kernel_rfl) (by decide) (fun K_ hK => ?_)
       refine value_ (w1 := ?_) (v := ?_) (by rfl) rfl ?_ ?_
       rotate_left 2
       ·go_simp
        constructor
        ·rfl
        rfl
       refine hK.out _ _ ⟨(blk_cell (blk_alloc BKP7.out _) 1).trans rfl, (blk_cell (blk_alloc BKC7.out _) 0).trans rfl, (blk_cell (blk_alloc BKC7.out _) 1).trans rfl, (blk_cell (blk_alloc BKC7.out _) 2).trans rfl⟩ (fun hHeld => ?_)
       clear hK K_
       refine norm_ (a' := ?_) ?_ ?_
       rotate_left
       ·show Act.put _ (some 70) _ = _
        simp only [Act.put, List.setIfInBounds_toArray, List.set_cons_zero, List.set_cons_succ, i64_w, i32_w]
        rfl
       refine one_ (i := 6) (N := some 71) (bn 9 127) rfl rfl (by kernel_rfl) (by decide) (fun K_ hK => ?_)
       refine Kd.R_append_step k40 (w0 := w) w.heap.size (by rfl) (.tmp 66) (.tmp 70) 26 40 (.agg #[(.int .i64 0), (.int .i64 0), (.int .i64 0)]) 24 rfl Tryz.underlying26 info40 rfl (by decide) (by omega) v T (⟨r1, r2, r3⟩ : S40) [.int .i64 r1, .int .i64 r2, .int .i64 r3] (fun _ => True) (fun _ => False) rfl rfl ?aP (fun _ hk => hk.elim) ?aF ?aO ?aB ?aS ?aL ?_
       (case aP => exact k40_mkM _ _ _ (⟨r1, r2, r3⟩ : S40))
       (case aB => exact HB7.out)
       (case aF => exact (fun _ _ => trivial))
       (case aO => exact Kd.R_mono HO7.out (fun _ _ => trivial))
       (case aS => exact below_size HB7.out)
       (case aL => have := HTL.out; have := HN0.out; omega)
       intro v125 w25 ho hb hg hat
       have n1_ := aM (blk_grown BKR7.out hg (Kd.R_ne HO7.out BKR7.out (by decide)))
       have n2_ := aM (blk_grown BKZ7.out hg (Kd.R_ne HO7.out BKZ7.out (by decide)))
       have n3_ := aM (blk_grown BKP7.out hg (Kd.R_ne HO7.out BKP7.out (by decide)))
       have HO9 := aM ho
       have HB9 := aM hb
       have hgc9 : w25.heap[gc]? = some (.cells #[.int .i64 0, .int .i64 (arg : Int), .int .i64 0] 40 (0, 0)) := blk_grown BKC7.out hg (fun he => HO7.out.1 gc he.symm rfl)
       have BKC9 := aM hgc9
       clear hgc9 ho hb hg hat BKR7 BKZ7 BKP7 BKC7 HB7 HO7
       have BKR9 := n1_
       have BKZ9 := n2_
       have BKP9 := n3_
       clear n1_ n2_ n3_
       obtain ⟨A9, c9, rfl⟩ := Kd.R_slice HO9.out
       refine hK.out _ _ ⟨(blk_cell BKP9.out 1).trans rfl, (blk_cell BKC9.out 0).trans rfl, (blk_cell BKC9.out 1).trans rfl, (blk_cell BKC9.out 2).trans rfl⟩ (fun hHeld => ?_)
       clear hK K_
       refine norm_ (a' := ?_) ?_ ?_
       rotate_left
       ·show Act.put _ (some 71) _ = _
        simp only [Act.put, List.setIfInBounds_toArray, List.set_cons_zero, List.set_cons_succ, i64_w, i32_w]
        rfl
       refine pure_ (i := 7) (N := some 72) (v := ?_) (a' := ?_) (bn 9 255) rfl rfl (by kernel_rfl) (fun _ _ _ h => h) (Or.inl ⟨by rfl, ?_⟩) ?_ ?_
       rotate_left
       ·intro w'
        go_simp
        with_reducible rfl
       rotate_left
       ·simp only [Act.put, List.setIfInBounds_toArray, List.set_cons_zero, List.set_cons_succ, i64_w, i32_w]
        rfl
       refine last_ (i := 8) (N := none) #[true, true, true, true, true, true, true, true, true] rfl rfl (by kernel_rfl) (by decide) (fun K_ hK => ?_)
       have hs27 : w25.cell? ⟨gp, 1, none⟩ = some v := (blk_cell BKP9.out 1).trans rfl
       have hfs27 := blk_frozen BKP9.out 1
       refine skip_ (w1 := ?_) (by rfl) rfl ?_ ?_
       rotate_left
       ·go_simp
        rfl
       refine hK.out _ _ ?_
       clear hK K_
       refine done_ (by kernel_rfl) ?_
       go_wp2
       go_roundg (n0 - (k + 1))
       case measure => omega
       case rel => exact ⟨k + 1, nxN (nxN z), T ++ [⟨r1, r2, r3⟩], _, by omega, by have := HN0.out; exact congrArg (Value.int .i64) ((w64 (by omega) (by omega)).trans (by omega)), ⟨nxN_lt _⟩, ⟨by rw [List.length_append, HTL.out]; rfl⟩, HM2, ⟨blk_far (p := ⟨gp, 1, none⟩) BKR9.out HRP.out _⟩, ⟨blk_far (p := ⟨gp, 1, none⟩) BKZ9.out HZP.out _⟩, ⟨blk_put (cs := #[.int .i64 (a0.size : Int), v]) BKP9.out 1 _ rfl⟩, ⟨by have h9 := HO9.out; rw [List.length_append, List.length_singleton] at h9; exact Kd.R_set h9 BKP9.out (by decide) 1 _⟩, ⟨below_setCell HB9.out gp 1 _ (Nat.le_of_lt HGP.out)⟩⟩
      ·have hk5 : Int.tmod (nxN z : Int) 5 = 1 := hk5
       have ht : impl_Clue_told.f 40 1 (arg : Int) 0 a0 = some (r1, r2, r3) := ht
       have HTD := aM ht
       clear ht
       rw [if_neg (by omega), if_neg (by omega), if_neg (by omega)] at harg
       go_wp2_with (first | ((with_reducible refine gate_dst (N := 36) rfl ?_); go_must (refine goesC_ (some 36) rfl rfl #[.pointer (some ⟨gz, 0, none⟩)] impl_MakePuzzle.f1 #[] rfl rfl (by (try simp only [List.map_toArray, List.map_cons, List.map_nil]); first | done | rfl) ?_; refine (impl_MakePuzzle.c1 gz z wr BKZ.out HZ.out).mono ?_; rintro e w2 ⟨rfl, hw⟩; refine ⟨_, rfl, ?_⟩; have HB2 := aM (show Below w.heap.size w w2 by rw [hw]; exact below_setCell HB.out gz 0 _ (Nat.le_of_lt HGZ.out)); have BKR2 := aM (show w2.heap[w.heap.size]? = some (.cells #[.int .i64 0, .slice none 0 0] 28 (0, 0)) by rw [hw]; exact blk_far (p := ⟨gz, 0, none⟩) BKR.out HRZ.out _); have BKZ2 := aM (show w2.heap[gz]? = some (.cells #[.int .i64 (nxN z)] 3 (0, 0)) by rw [hw]; exact blk_put BKZ.out 0 _ rfl); have BKP2 := aM (show w2.heap[gp]? = some (.cells #[.int .i64 (a0.size : Int), v] 28 (0, 0)) by rw [hw]; exact blk_far (p := ⟨gz, 0, none⟩) BKP.out (Ne.symm HZP.out) _); have HO2 := aM (show Kd.R k40 40 w2 w.heap.size (fun _ => True) v T by rw [hw]; exact Kd.R_set HO.out BKZ.out (by decide) 0 _); clear hw HB BKR BKZ BKP HO)) | ((with_reducible refine gate_dst (N := 11) rfl ?_); refine box_event ?hg (N := 11) ?hd (cs := #[.int .i64 0, .int .i64 0, .int .i64 0]) (t := 40) ?hr ?_; (case hd => rfl); (case hg => rfl); (case hr => first | (go_simp; done) | (go_simp; rfl)); intro gc hgc w3 hbox hb; have HB3 := aM (below_step HB2.out hb); have BKR3 := aM (blk_below BKR2.out hb); have BKZ3 := aM (blk_below BKZ2.out hb); have BKP3 := aM (blk_below BKP2.out hb); have HO3 := aM (Kd.R_below (Kd.R_mono (ok' := fun k => k ≠ gc) (Kd.R_bound HO2.out) (fun k hk => hgc ▸ Nat.ne_of_lt hk.2.2.1)) hb); have HRC := aM (show w.heap.size ≠ gc from hgc ▸ Nat.ne_of_lt (blk_lt BKR2.out)); have HGC := aM (show w.heap.size ≤ gc from hgc ▸ Nat.le_of_lt (blk_lt BKR2.out)); have HZC := aM (show gz ≠ gc from hgc ▸ Nat.ne_of_lt (blk_lt BKZ2.out)); have HPC := aM (show gp ≠ gc from hgc ▸ Nat.ne_of_lt (blk_lt BKP2.out)); have hcc0 := (blk_cell hbox 0).trans rfl; have hcc1 := (blk_cell hbox 1).trans rfl; have hcc2 := (blk_cell hbox 2).trans rfl; have hfc0 := blk_frozen hbox 0; have hfc1 := blk_frozen hbox 1; have hfc2 := blk_frozen hbox 2; have BKC3 := aM hbox; clear HB2 BKR2 BKZ2 BKP2 HO2; clear hbox hb hgc) | ((with_reducible refine gate_dst (N := 40) rfl ?_); go_must (refine goesC_ (some 40) rfl rfl #[.pointer (some ⟨gz, 0, none⟩)] impl_MakePuzzle.f1 #[] rfl rfl (by (try simp only [List.map_toArray, List.map_cons, List.map_nil]); first | done | rfl) ?_; refine (impl_MakePuzzle.c1 gz (nxN z) _ (blk_far (p := ⟨gc, 2, none⟩) (blk_far (p := ⟨gc, 1, none⟩) (blk_far (p := ⟨gc, 0, none⟩) BKZ3.out HZC.out _) HZC.out _) HZC.out _) (nxN_lt z)).mono ?_; rintro e w4 ⟨rfl, hw⟩; refine ⟨_, rfl, ?_⟩; clear hcc0 hcc1 hcc2 hfc0 hfc1 hfc2; have HB4 := aM (show Below w.heap.size w w4 by rw [hw]; exact below_setCell (below_setCell (below_setCell (below_setCell HB3.out gc 0 _ HGC.out) gc 1 _ HGC.out) gc 2 _ HGC.out) gz 0 _ (Nat.le_of_lt HGZ.out)); have BKR4 := aM (show w4.heap[w.heap.size]? = some (.cells #[.int .i64 0, .slice none 0 0] 28 (0, 0)) by rw [hw]; exact blk_far (p := ⟨gz, 0, none⟩) (blk_far (p := ⟨gc, 2, none⟩) (blk_far (p := ⟨gc, 1, none⟩) (blk_far (p := ⟨gc, 0, none⟩) BKR3.out HRC.out _) HRC.out _) HRC.out _) HRZ.out _); have BKZ4 := aM (show w4.heap[gz]? = some (.cells #[.int .i64 (nxN (nxN z))] 3 (0, 0)) by rw [hw]; exact blk_put (blk_far (p := ⟨gc, 2, none⟩) (blk_far (p := ⟨gc, 1, none⟩) (blk_far (p := ⟨gc, 0, none⟩) BKZ3.out HZC.out _) HZC.out _) HZC.out _) 0 _ rfl); have BKP4 := aM (show w4.heap[gp]? = some (.cells #[.int .i64 (a0.size : Int), v] 28 (0, 0)) by rw [hw]; exact blk_far (p := ⟨gz, 0, none⟩) (blk_far (p := ⟨gc, 2, none⟩) (blk_far (p := ⟨gc, 1, none⟩) (blk_far (p := ⟨gc, 0, none⟩) BKP3.out HPC.out _) HPC.out _) HPC.out _) (Ne.symm HZP.out) _); have BKC4 := aM (show w4.heap[gc]? = some (.cells #[.int .i64 1, .int .i64 0, .int .i64 0] 40 (0, 0)) by rw [hw]; exact blk_far (p := ⟨gz, 0, none⟩) (blk_put (cs' := #[.int .i64 1, .int .i64 0, .int .i64 0]) (blk_put (cs' := #[.int .i64 1, .int .i64 0, .int .i64 0]) (blk_put (cs' := #[.int .i64 1, .int .i64 0, .int .i64 0]) BKC3.out 0 _ rfl) 1 _ rfl) 2 _ rfl) (Ne.symm HZC.out) _); have HO4 := aM (show Kd.R k40 40 w4 w.heap.size (fun k => k ≠ gc) v T by rw [hw]; exact Kd.R_set (Kd.R_far (p := ⟨gc, 2, none⟩) (Kd.R_far (p := ⟨gc, 1, none⟩) (Kd.R_far (p := ⟨gc, 0, none⟩) HO3.out (fun _ hk => hk) _) (fun _ hk => hk) _) (fun _ hk => hk) _) (blk_far (p := ⟨gc, 2, none⟩) (blk_far (p := ⟨gc, 1, none⟩) (blk_far (p := ⟨gc, 0, none⟩) BKZ3.out HZC.out _) HZC.out _) HZC.out _) (by decide) 0 _); have hck := (blk_cell BKC4.out 0).trans rfl; have hca := (blk_cell BKC4.out 1).trans rfl; have hfa := blk_frozen BKC4.out 1; clear hw HB3 BKR3 BKZ3 BKP3 HO3 BKC3)))
       subst harg
       have HB7 := HB4
       have BKR7 := BKR4
       have BKZ7 := BKZ4
       have BKP7 := BKP4
       have BKC7 : Aside0 (w4.heap[gc]? = some (.cells #[.int .i64 1, .int .i64 ((0 : Nat) : Int), .int .i64 0] 40 (0, 0))) := BKC4
       have HO7 := HO4
       clear HB4 BKR4 BKZ4 BKP4 BKC4 HO4 hck hca hfa
       generalize w4 = W7 at HB7 BKR7 BKZ7 BKP7 BKC7 HO7 ⊢
       refine start_ (n := 9) (S := fun w' => w'.cell? ⟨gp, 1, none⟩ = some v ∧ w'.cell? ⟨gc, 0, none⟩ = some (.int .i64 1) ∧ w'.cell? ⟨gc, 1, none⟩ = some (.int .i64 ((0 : Nat) : Int)) ∧ w'.cell? ⟨gc, 2, none⟩ = some (.int .i64 0)) (ds := [8]) (bn 9 0) (by kernel_rfl) rfl rfl ⟨(blk_cell BKP7.out 1).trans rfl, (blk_cell BKC7.out 0).trans rfl, (blk_cell BKC7.out 1).trans rfl, (blk_cell BKC7.out 2).trans rfl⟩ (fun hHeld => ?_)
       have n0_ := aM (Kd.R_drew HO7.out)
       have n1_ := aM (blk_drew BKR7.out)
       have n2_ := aM (blk_drew BKZ7.out)
       have n3_ := aM (blk_drew BKP7.out)
       have n4_ := aM (blk_drew BKC7.out)
       have n5_ := aM (below_drew1 HB7.out)
       clear HO7 BKR7 BKZ7 BKP7 BKC7 HB7
       have HO7 := n0_
       have BKR7 := n1_
       have BKZ7 := n2_
       have BKP7 := n3_
       have BKC7 := n4_
       have HB7 := n5_
       clear n0_ n1_ n2_ n3_ n4_ n5_
       generalize W7.drew = W8 at HO7 BKR7 BKZ7 BKP7 BKC7 HB7 hHeld ⊢
       refine pure_ (i := 0) (N := some 65) (v := ?_) (a' := ?_) (bn 9 1) rfl rfl (by kernel_rfl) (fun _ _ _ h => h) (Or.inl ⟨by rfl, ?_⟩) ?_ ?_
       rotate_left
       ·intro w'
        go_simp
        with_reducible rfl
       rotate_left
       ·simp only [Act.put, List.setIfInBounds_toArray, List.set_cons_zero, List.set_cons_succ, i64_w, i32_w]
        rfl
       refine pure_ (i := 3) (N := some 68) (v := ?_) (a' := ?_) (bn 9 9) rfl rfl (by kernel_rfl) (fun _ _ _ h => h) (Or.inl ⟨by rfl, ?_⟩) ?_ ?_
       rotate_left
       ·intro w'
        go_simp
        with_reducible rfl
       rotate_left
       ·simp only [Act.put, List.setIfInBounds_toArray, List.set_cons_zero, List.set_cons_succ, i64_w, i32_w]
        rfl
       refine take_ (i := 1) (N := some 66) (v := ?_) (a' := ?_) (bn 9 11) rfl rfl (by kernel_rfl) (fun _ _ _ h => h) (Or.inl ⟨by rfl, ?_⟩) hHeld ?_ ?_
       rotate_left
       ·rintro w' ⟨s0, s1, s2, s3⟩
        go_simp
        with_reducible rfl
       rotate_left
       ·simp only [Act.put, List.setIfInBounds_toArray, List.set_cons_zero, List.set_cons_succ, i64_w, i32_w]
        rfl
       refine take_ (i := 2) (N := some 67) (v := ?_) (a' := ?_) (bn 9 15) rfl rfl (by kernel_rfl) (fun _ _ _ h => h) (Or.inl ⟨by rfl, ?_⟩) hHeld ?_ ?_
       rotate_left
       ·rintro w' ⟨s0, s1, s2, s3⟩
        go_simp
        with_reducible rfl
       rotate_left
       ·simp only [Act.put, List.setIfInBounds_toArray, List.set_cons_zero, List.set_cons_succ, i64_w, i32_w]
        rfl
       refine one_ (i := 4) (N := some 69) (bn 9 31) rfl rfl (by kernel_rfl) (by decide) (fun K_ hK => ?_)
       refine goes_ Tryz.func42 (by kernel_rfl) rfl #[.agg #[.int .i64 1, .int .i64 ((0 : Nat) : Int), .int .i64 0], .string a0] (by rfl) rfl rfl (by (try simp only [List.map_toArray, List.map_cons, List.map_nil]); first | done | rfl) ?_
       refine (impl_Clue_told.calls 40 1 ((0 : Nat) : Int) 0 a0 r1 r2 r3 _ HTD.out).mono ?_
       rintro e w9 ⟨rfl, hb⟩
       refine ⟨_, rfl, ?_⟩
       have n0_ := aM (Kd.R_below HO7.out hb)
       have n1_ := aM (blk_below BKR7.out hb)
       have n2_ := aM (blk_below BKZ7.out hb)
       have n3_ := aM (blk_below BKP7.out hb)
       have n4_ := aM (blk_below BKC7.out hb)
       have n5_ := aM (below_step HB7.out hb)
       clear HO7 BKR7 BKZ7 BKP7 BKC7 HB7 hb
       have HO7 := n0_
       have BKR7 := n1_
       have BKZ7 := n2_
       have BKP7 := n3_
       have BKC7 := n4_
       have HB7 := n5_
       clear n0_ n1_ n2_ n3_ n4_ n5_
       refine hK.out _ _ ⟨(blk_cell BKP7.out 1).trans rfl, (blk_cell BKC7.out 0).trans rfl, (blk_cell BKC7.out 1).trans rfl, (blk_cell BKC7.out 2).trans rfl⟩ (fun hHeld => ?_)
       clear hK K_
       refine norm_ (a' := ?_) ?_ ?_
       rotate_left
       ·show Act.put _ (some 69) _ = _
        simp only [Act.put, List.setIfInBounds_toArray, List.set_cons_zero, List.set_cons_succ, i64_w, i32_w]
        rfl
       refine one_ (i := 5) (N := some 70) (bn 9 63) rfl rfl (by kernel_rfl) (by decide) (fun K_ hK => ?_)
       refine value_ (w1 := ?_) (v := ?_) (by rfl) rfl ?_ ?_
       rotate_left 2
       ·go_simp
        constructor
        ·rfl
        rfl
       refine hK.out _ _ ⟨(blk_cell (blk_alloc BKP7.out _) 1).trans rfl, (blk_cell (blk_alloc BKC7.out _) 0).trans rfl, (blk_cell (blk_alloc BKC7.out _) 1).trans rfl, (blk_cell (blk_alloc BKC7.out _) 2).trans rfl⟩ (fun hHeld => ?_)
       clear hK K_
       refine norm_ (a' := ?_) ?_ ?_
       rotate_left
       ·show Act.put _ (some 70) _ = _
        simp only [Act.put, List.setIfInBounds_toArray, List.set_cons_zero, List.set_cons_succ, i64_w, i32_w]
        rfl
       refine one_ (i := 6) (N := some 71) (bn 9 127) rfl rfl (by kernel_rfl) (by decide) (fun K_ hK => ?_)
       refine Kd.R_append_step k40 (w0 := w) w.heap.size (by rfl) (.tmp 66) (.tmp 70) 26 40 (.agg #[(.int .i64 0), (.int .i64 0), (.int .i64 0)]) 24 rfl Tryz.underlying26 info40 rfl (by decide) (by omega) v T (⟨r1, r2, r3⟩ : S40) [.int .i64 r1, .int .i64 r2, .int .i64 r3] (fun _ => True) (fun _ => False) rfl rfl ?aP (fun _ hk => hk.elim) ?aF ?aO ?aB ?aS ?aL ?_
       (case aP => exact k40_mkM _ _ _ (⟨r1, r2, r3⟩ : S40))
       (case aB => exact HB7.out)
       (case aF => exact (fun _ _ => trivial))
       (case aO => exact Kd.R_mono HO7.out (fun _ _ => trivial))
       (case aS => exact below_size HB7.out)
       (case aL => have := HTL.out; have := HN0.out; omega)
       intro v125 w25 ho hb hg hat
       have n1_ := aM (blk_grown BKR7.out hg (Kd.R_ne HO7.out BKR7.out (by decide)))
       have n2_ := aM (blk_grown BKZ7.out hg (Kd.R_ne HO7.out BKZ7.out (by decide)))
       have n3_ := aM (blk_grown BKP7.out hg (Kd.R_ne HO7.out BKP7.out (by decide)))
       have HO9 := aM ho
       have HB9 := aM hb
       have hgc9 : w25.heap[gc]? = some (.cells #[.int .i64 1, .int .i64 ((0 : Nat) : Int), .int .i64 0] 40 (0, 0)) := blk_grown BKC7.out hg (fun he => HO7.out.1 gc he.symm rfl)
       have BKC9 := aM hgc9
       clear hgc9 ho hb hg hat BKR7 BKZ7 BKP7 BKC7 HB7 HO7
       have BKR9 := n1_
       have BKZ9 := n2_
       have BKP9 := n3_
       clear n1_ n2_ n3_
       obtain ⟨A9, c9, rfl⟩ := Kd.R_slice HO9.out
       refine hK.out _ _ ⟨(blk_cell BKP9.out 1).trans rfl, (blk_cell BKC9.out 0).trans rfl, (blk_cell BKC9.out 1).trans rfl, (blk_cell BKC9.out 2).trans rfl⟩ (fun hHeld => ?_)
       clear hK K_
       refine norm_ (a' := ?_) ?_ ?_
       rotate_left
       ·show Act.put _ (some 71) _ = _
        simp only [Act.put, List.setIfInBounds_toArray, List.set_cons_zero, List.set_cons_succ, i64_w, i32_w]
        rfl
       refine pure_ (i := 7) (N := some 72) (v := ?_) (a' := ?_) (bn 9 255) rfl rfl (by kernel_rfl) (fun _ _ _ h => h) (Or.inl ⟨by rfl, ?_⟩) ?_ ?_
       rotate_left
       ·intro w'
        go_simp
        with_reducible rfl
       rotate_left
       ·simp only [Act.put, List.setIfInBounds_toArray, List.set_cons_zero, List.set_cons_succ, i64_w, i32_w]
        rfl
       refine last_ (i := 8) (N := none) #[true, true, true, true, true, true, true, true, true] rfl rfl (by kernel_rfl) (by decide) (fun K_ hK => ?_)
       have hs27 : w25.cell? ⟨gp, 1, none⟩ = some v := (blk_cell BKP9.out 1).trans rfl
       have hfs27 := blk_frozen BKP9.out 1
       refine skip_ (w1 := ?_) (by rfl) rfl ?_ ?_
       rotate_left
       ·go_simp
        rfl
       refine hK.out _ _ ?_
       clear hK K_
       refine done_ (by kernel_rfl) ?_
       go_wp2
       go_roundg (n0 - (k + 1))
       case measure => omega
       case rel => exact ⟨k + 1, nxN (nxN z), T ++ [⟨r1, r2, r3⟩], _, by omega, by have := HN0.out; exact congrArg (Value.int .i64) ((w64 (by omega) (by omega)).trans (by omega)), ⟨nxN_lt _⟩, ⟨by rw [List.length_append, HTL.out]; rfl⟩, HM2, ⟨blk_far (p := ⟨gp, 1, none⟩) BKR9.out HRP.out _⟩, ⟨blk_far (p := ⟨gp, 1, none⟩) BKZ9.out HZP.out _⟩, ⟨blk_put (cs := #[.int .i64 (a0.size : Int), v]) BKP9.out 1 _ rfl⟩, ⟨by have h9 := HO9.out; rw [List.length_append, List.length_singleton] at h9; exact Kd.R_set h9 BKP9.out (by decide) 1 _⟩, ⟨below_setCell HB9.out gp 1 _ (Nat.le_of_lt HGP.out)⟩⟩
      ·have hk5 : Int.tmod (nxN z : Int) 5 = 2 := hk5
       have ht : impl_Clue_told.f 40 2 (arg : Int) 0 a0 = some (r1, r2, r3) := ht
       have HTD := aM ht
       clear ht
       rw [if_neg (by omega), if_pos rfl] at harg
       have hv : wrap64 (Int.tmod (nxN (nxN z) : Int) 8 + 2) = (arg : Int) := by rw [show Int.tmod (nxN (nxN z) : Int) 8 = ((nxN (nxN z) % 8 : Nat) : Int) from tmodN _ 8, w64 (by omega) (by omega), harg]; rfl
       have e2 : (nxN (nxN z) : Int) % 8 + 2 = (arg : Int) := by omega
       have E2 := aM e2
       clear e2
       clear harg
       go_wp2_with (first | ((with_reducible refine gate_dst (N := 36) rfl ?_); go_must (refine goesC_ (some 36) rfl rfl #[.pointer (some ⟨gz, 0, none⟩)] impl_MakePuzzle.f1 #[] rfl rfl (by (try simp only [List.map_toArray, List.map_cons, List.map_nil]); first | done | rfl) ?_; refine (impl_MakePuzzle.c1 gz z wr BKZ.out HZ.out).mono ?_; rintro e w2 ⟨rfl, hw⟩; refine ⟨_, rfl, ?_⟩; have HB2 := aM (show Below w.heap.size w w2 by rw [hw]; exact below_setCell HB.out gz 0 _ (Nat.le_of_lt HGZ.out)); have BKR2 := aM (show w2.heap[w.heap.size]? = some (.cells #[.int .i64 0, .slice none 0 0] 28 (0, 0)) by rw [hw]; exact blk_far (p := ⟨gz, 0, none⟩) BKR.out HRZ.out _); have BKZ2 := aM (show w2.heap[gz]? = some (.cells #[.int .i64 (nxN z)] 3 (0, 0)) by rw [hw]; exact blk_put BKZ.out 0 _ rfl); have BKP2 := aM (show w2.heap[gp]? = some (.cells #[.int .i64 (a0.size : Int), v] 28 (0, 0)) by rw [hw]; exact blk_far (p := ⟨gz, 0, none⟩) BKP.out (Ne.symm HZP.out) _); have HO2 := aM (show Kd.R k40 40 w2 w.heap.size (fun _ => True) v T by rw [hw]; exact Kd.R_set HO.out BKZ.out (by decide) 0 _); clear hw HB BKR BKZ BKP HO)) | ((with_reducible refine gate_dst (N := 11) rfl ?_); refine box_event ?hg (N := 11) ?hd (cs := #[.int .i64 0, .int .i64 0, .int .i64 0]) (t := 40) ?hr ?_; (case hd => rfl); (case hg => rfl); (case hr => first | (go_simp; done) | (go_simp; rfl)); intro gc hgc w3 hbox hb; have HB3 := aM (below_step HB2.out hb); have BKR3 := aM (blk_below BKR2.out hb); have BKZ3 := aM (blk_below BKZ2.out hb); have BKP3 := aM (blk_below BKP2.out hb); have HO3 := aM (Kd.R_below (Kd.R_mono (ok' := fun k => k ≠ gc) (Kd.R_bound HO2.out) (fun k hk => hgc ▸ Nat.ne_of_lt hk.2.2.1)) hb); have HRC := aM (show w.heap.size ≠ gc from hgc ▸ Nat.ne_of_lt (blk_lt BKR2.out)); have HGC := aM (show w.heap.size ≤ gc from hgc ▸ Nat.le_of_lt (blk_lt BKR2.out)); have HZC := aM (show gz ≠ gc from hgc ▸ Nat.ne_of_lt (blk_lt BKZ2.out)); have HPC := aM (show gp ≠ gc from hgc ▸ Nat.ne_of_lt (blk_lt BKP2.out)); have hcc0 := (blk_cell hbox 0).trans rfl; have hcc1 := (blk_cell hbox 1).trans rfl; have hcc2 := (blk_cell hbox 2).trans rfl; have hfc0 := blk_frozen hbox 0; have hfc1 := blk_frozen hbox 1; have hfc2 := blk_frozen hbox 2; have BKC3 := aM hbox; clear HB2 BKR2 BKZ2 BKP2 HO2; clear hbox hb hgc) | ((with_reducible refine gate_dst (N := 40) rfl ?_); go_must (refine goesC_ (some 40) rfl rfl #[.pointer (some ⟨gz, 0, none⟩)] impl_MakePuzzle.f1 #[] rfl rfl (by (try simp only [List.map_toArray, List.map_cons, List.map_nil]); first | done | rfl) ?_; refine (impl_MakePuzzle.c1 gz (nxN z) _ (blk_far (p := ⟨gc, 2, none⟩) (blk_far (p := ⟨gc, 1, none⟩) (blk_far (p := ⟨gc, 0, none⟩) BKZ3.out HZC.out _) HZC.out _) HZC.out _) (nxN_lt z)).mono ?_; rintro e w4 ⟨rfl, hw⟩; refine ⟨_, rfl, ?_⟩; clear hcc0 hcc1 hcc2 hfc0 hfc1 hfc2; have HB4 := aM (show Below w.heap.size w w4 by rw [hw]; exact below_setCell (below_setCell (below_setCell (below_setCell HB3.out gc 0 _ HGC.out) gc 1 _ HGC.out) gc 2 _ HGC.out) gz 0 _ (Nat.le_of_lt HGZ.out)); have BKR4 := aM (show w4.heap[w.heap.size]? = some (.cells #[.int .i64 0, .slice none 0 0] 28 (0, 0)) by rw [hw]; exact blk_far (p := ⟨gz, 0, none⟩) (blk_far (p := ⟨gc, 2, none⟩) (blk_far (p := ⟨gc, 1, none⟩) (blk_far (p := ⟨gc, 0, none⟩) BKR3.out HRC.out _) HRC.out _) HRC.out _) HRZ.out _); have BKZ4 := aM (show w4.heap[gz]? = some (.cells #[.int .i64 (nxN (nxN z))] 3 (0, 0)) by rw [hw]; exact blk_put (blk_far (p := ⟨gc, 2, none⟩) (blk_far (p := ⟨gc, 1, none⟩) (blk_far (p := ⟨gc, 0, none⟩) BKZ3.out HZC.out _) HZC.out _) HZC.out _) 0 _ rfl); have BKP4 := aM (show w4.heap[gp]? = some (.cells #[.int .i64 (a0.size : Int), v] 28 (0, 0)) by rw [hw]; exact blk_far (p := ⟨gz, 0, none⟩) (blk_far (p := ⟨gc, 2, none⟩) (blk_far (p := ⟨gc, 1, none⟩) (blk_far (p := ⟨gc, 0, none⟩) BKP3.out HPC.out _) HPC.out _) HPC.out _) (Ne.symm HZP.out) _); have BKC4 := aM (show w4.heap[gc]? = some (.cells #[.int .i64 2, .int .i64 0, .int .i64 0] 40 (0, 0)) by rw [hw]; exact blk_far (p := ⟨gz, 0, none⟩) (blk_put (cs' := #[.int .i64 2, .int .i64 0, .int .i64 0]) (blk_put (cs' := #[.int .i64 2, .int .i64 0, .int .i64 0]) (blk_put (cs' := #[.int .i64 2, .int .i64 0, .int .i64 0]) BKC3.out 0 _ rfl) 1 _ rfl) 2 _ rfl) (Ne.symm HZC.out) _); have HO4 := aM (show Kd.R k40 40 w4 w.heap.size (fun k => k ≠ gc) v T by rw [hw]; exact Kd.R_set (Kd.R_far (p := ⟨gc, 2, none⟩) (Kd.R_far (p := ⟨gc, 1, none⟩) (Kd.R_far (p := ⟨gc, 0, none⟩) HO3.out (fun _ hk => hk) _) (fun _ hk => hk) _) (fun _ hk => hk) _) (blk_far (p := ⟨gc, 2, none⟩) (blk_far (p := ⟨gc, 1, none⟩) (blk_far (p := ⟨gc, 0, none⟩) BKZ3.out HZC.out _) HZC.out _) HZC.out _) (by decide) 0 _); have hck := (blk_cell BKC4.out 0).trans rfl; have hca := (blk_cell BKC4.out 1).trans rfl; have hfa := blk_frozen BKC4.out 1; clear hw HB3 BKR3 BKZ3 BKP3 HO3 BKC3)))
       rw [E2.out]
       have HB7 := aM (below_setCell HB4.out gc 1 (.int .i64 (arg : Int)) HGC.out)
       have BKR7 := aM (blk_far (p := ⟨gc, 1, none⟩) BKR4.out HRC.out (.int .i64 (arg : Int)))
       have BKZ7 := aM (blk_far (p := ⟨gc, 1, none⟩) BKZ4.out HZC.out (.int .i64 (arg : Int)))
       have BKP7 := aM (blk_far (p := ⟨gc, 1, none⟩) BKP4.out HPC.out (.int .i64 (arg : Int)))
       have BKC7 := aM (blk_put (cs' := #[.int .i64 2, .int .i64 arg, .int .i64 0]) BKC4.out 1 (.int .i64 (arg : Int)) rfl)
       have HO7 := aM (Kd.R_far (p := ⟨gc, 1, none⟩) HO4.out (fun _ hk => hk) (.int .i64 (arg : Int)))
       clear HB4 BKR4 BKZ4 BKP4 BKC4 HO4 hck hca hfa
       generalize w4.setCell ⟨gc, 1, none⟩ (.int .i64 (arg : Int)) = W7 at HB7 BKR7 BKZ7 BKP7 BKC7 HO7 ⊢
       refine start_ (n := 9) (S := fun w' => w'.cell? ⟨gp, 1, none⟩ = some v ∧ w'.cell? ⟨gc, 0, none⟩ = some (.int .i64 2) ∧ w'.cell? ⟨gc, 1, none⟩ = some (.int .i64 (arg : Int)) ∧ w'.cell? ⟨gc, 2, none⟩ = some (.int .i64 0)) (ds := [8]) (bn 9 0) (by kernel_rfl) rfl rfl ⟨(blk_cell BKP7.out 1).trans rfl, (blk_cell BKC7.out 0).trans rfl, (blk_cell BKC7.out 1).trans rfl, (blk_cell BKC7.out 2).trans rfl⟩ (fun hHeld => ?_)
       have n0_ := aM (Kd.R_drew HO7.out)
       have n1_ := aM (blk_drew BKR7.out)
       have n2_ := aM (blk_drew BKZ7.out)
       have n3_ := aM (blk_drew BKP7.out)
       have n4_ := aM (blk_drew BKC7.out)
       have n5_ := aM (below_drew1 HB7.out)
       clear HO7 BKR7 BKZ7 BKP7 BKC7 HB7
       have HO7 := n0_
       have BKR7 := n1_
       have BKZ7 := n2_
       have BKP7 := n3_
       have BKC7 := n4_
       have HB7 := n5_
       clear n0_ n1_ n2_ n3_ n4_ n5_
       generalize W7.drew = W8 at HO7 BKR7 BKZ7 BKP7 BKC7 HB7 hHeld ⊢
       refine pure_ (i := 0) (N := some 65) (v := ?_) (a' := ?_) (bn 9 1) rfl rfl (by kernel_rfl) (fun _ _ _ h => h) (Or.inl ⟨by rfl, ?_⟩) ?_ ?_
       rotate_left
       ·intro w'
        go_simp
        with_reducible rfl
       rotate_left
       ·simp only [Act.put, List.setIfInBounds_toArray, List.set_cons_zero, List.set_cons_succ, i64_w, i32_w]
        rfl
       refine pure_ (i := 3) (N := some 68) (v := ?_) (a' := ?_) (bn 9 9) rfl rfl (by kernel_rfl) (fun _ _ _ h => h) (Or.inl ⟨by rfl, ?_⟩) ?_ ?_
       rotate_left
       ·intro w'
        go_simp
        with_reducible rfl
       rotate_left
       ·simp only [Act.put, List.setIfInBounds_toArray, List.set_cons_zero, List.set_cons_succ, i64_w, i32_w]
        rfl
       refine take_ (i := 1) (N := some 66) (v := ?_) (a' := ?_) (bn 9 11) rfl rfl (by kernel_rfl) (fun _ _ _ h => h) (Or.inl ⟨by rfl, ?_⟩) hHeld ?_ ?_
       rotate_left
       ·rintro w' ⟨s0, s1, s2, s3⟩
        go_simp
        with_reducible rfl
       rotate_left
       ·simp only [Act.put, List.setIfInBounds_toArray, List.set_cons_zero, List.set_cons_succ, i64_w, i32_w]
        rfl
       refine take_ (i := 2) (N := some 67) (v := ?_) (a' := ?_) (bn 9 15) rfl rfl (by kernel_rfl) (fun _ _ _ h => h) (Or.inl ⟨by rfl, ?_⟩) hHeld ?_ ?_
       rotate_left
       ·rintro w' ⟨s0, s1, s2, s3⟩
        go_simp
        with_reducible rfl
       rotate_left
       ·simp only [Act.put, List.setIfInBounds_toArray, List.set_cons_zero, List.set_cons_succ, i64_w, i32_w]
        rfl
       refine one_ (i := 4) (N := some 69) (bn 9 31) rfl rfl (by kernel_rfl) (by decide) (fun K_ hK => ?_)
       refine goes_ Tryz.func42 (by kernel_rfl) rfl #[.agg #[.int .i64 2, .int .i64 (arg : Int), .int .i64 0], .string a0] (by rfl) rfl rfl (by (try simp only [List.map_toArray, List.map_cons, List.map_nil]); first | done | rfl) ?_
       refine (impl_Clue_told.calls 40 2 (arg : Int) 0 a0 r1 r2 r3 _ HTD.out).mono ?_
       rintro e w9 ⟨rfl, hb⟩
       refine ⟨_, rfl, ?_⟩
       have n0_ := aM (Kd.R_below HO7.out hb)
       have n1_ := aM (blk_below BKR7.out hb)
       have n2_ := aM (blk_below BKZ7.out hb)
       have n3_ := aM (blk_below BKP7.out hb)
       have n4_ := aM (blk_below BKC7.out hb)
       have n5_ := aM (below_step HB7.out hb)
       clear HO7 BKR7 BKZ7 BKP7 BKC7 HB7 hb
       have HO7 := n0_
       have BKR7 := n1_
       have BKZ7 := n2_
       have BKP7 := n3_
       have BKC7 := n4_
       have HB7 := n5_
       clear n0_ n1_ n2_ n3_ n4_ n5_
       refine hK.out _ _ ⟨(blk_cell BKP7.out 1).trans rfl, (blk_cell BKC7.out 0).trans rfl, (blk_cell BKC7.out 1).trans rfl, (blk_cell BKC7.out 2).trans rfl⟩ (fun hHeld => ?_)
       clear hK K_
       refine norm_ (a' := ?_) ?_ ?_
       rotate_left
       ·show Act.put _ (some 69) _ = _
        simp only [Act.put, List.setIfInBounds_toArray, List.set_cons_zero, List.set_cons_succ, i64_w, i32_w]
        rfl
       refine one_ (i := 5) (N := some 70) (bn 9 63) rfl rfl (by kernel_rfl) (by decide) (fun K_ hK => ?_)
       refine value_ (w1 := ?_) (v := ?_) (by rfl) rfl ?_ ?_
       rotate_left 2
       ·go_simp
        constructor
        ·rfl
        rfl
       refine hK.out _ _ ⟨(blk_cell (blk_alloc BKP7.out _) 1).trans rfl, (blk_cell (blk_alloc BKC7.out _) 0).trans rfl, (blk_cell (blk_alloc BKC7.out _) 1).trans rfl, (blk_cell (blk_alloc BKC7.out _) 2).trans rfl⟩ (fun hHeld => ?_)
       clear hK K_
       refine norm_ (a' := ?_) ?_ ?_
       rotate_left
       ·show Act.put _ (some 70) _ = _
        simp only [Act.put, List.setIfInBounds_toArray, List.set_cons_zero, List.set_cons_succ, i64_w, i32_w]
        rfl
       refine one_ (i := 6) (N := some 71) (bn 9 127) rfl rfl (by kernel_rfl) (by decide) (fun K_ hK => ?_)
       refine Kd.R_append_step k40 (w0 := w) w.heap.size (by rfl) (.tmp 66) (.tmp 70) 26 40 (.agg #[(.int .i64 0), (.int .i64 0), (.int .i64 0)]) 24 rfl Tryz.underlying26 info40 rfl (by decide) (by omega) v T (⟨r1, r2, r3⟩ : S40) [.int .i64 r1, .int .i64 r2, .int .i64 r3] (fun _ => True) (fun _ => False) rfl rfl ?aP (fun _ hk => hk.elim) ?aF ?aO ?aB ?aS ?aL ?_
       (case aP => exact k40_mkM _ _ _ (⟨r1, r2, r3⟩ : S40))
       (case aB => exact HB7.out)
       (case aF => exact (fun _ _ => trivial))
       (case aO => exact Kd.R_mono HO7.out (fun _ _ => trivial))
       (case aS => exact below_size HB7.out)
       (case aL => have := HTL.out; have := HN0.out; omega)
       intro v125 w25 ho hb hg hat
       have n1_ := aM (blk_grown BKR7.out hg (Kd.R_ne HO7.out BKR7.out (by decide)))
       have n2_ := aM (blk_grown BKZ7.out hg (Kd.R_ne HO7.out BKZ7.out (by decide)))
       have n3_ := aM (blk_grown BKP7.out hg (Kd.R_ne HO7.out BKP7.out (by decide)))
       have HO9 := aM ho
       have HB9 := aM hb
       have hgc9 : w25.heap[gc]? = some (.cells #[.int .i64 2, .int .i64 (arg : Int), .int .i64 0] 40 (0, 0)) := blk_grown BKC7.out hg (fun he => HO7.out.1 gc he.symm rfl)
       have BKC9 := aM hgc9
       clear hgc9 ho hb hg hat BKR7 BKZ7 BKP7 BKC7 HB7 HO7
       have BKR9 := n1_
       have BKZ9 := n2_
       have BKP9 := n3_
       clear n1_ n2_ n3_
       obtain ⟨A9, c9, rfl⟩ := Kd.R_slice HO9.out
       refine hK.out _ _ ⟨(blk_cell BKP9.out 1).trans rfl, (blk_cell BKC9.out 0).trans rfl, (blk_cell BKC9.out 1).trans rfl, (blk_cell BKC9.out 2).trans rfl⟩ (fun hHeld => ?_)
       clear hK K_
       refine norm_ (a' := ?_) ?_ ?_
       rotate_left
       ·show Act.put _ (some 71) _ = _
        simp only [Act.put, List.setIfInBounds_toArray, List.set_cons_zero, List.set_cons_succ, i64_w, i32_w]
        rfl
       refine pure_ (i := 7) (N := some 72) (v := ?_) (a' := ?_) (bn 9 255) rfl rfl (by kernel_rfl) (fun _ _ _ h => h) (Or.inl ⟨by rfl, ?_⟩) ?_ ?_
       rotate_left
       ·intro w'
        go_simp
        with_reducible rfl
       rotate_left
       ·simp only [Act.put, List.setIfInBounds_toArray, List.set_cons_zero, List.set_cons_succ, i64_w, i32_w]
        rfl
       refine last_ (i := 8) (N := none) #[true, true, true, true, true, true, true, true, true] rfl rfl (by kernel_rfl) (by decide) (fun K_ hK => ?_)
       have hs27 : w25.cell? ⟨gp, 1, none⟩ = some v := (blk_cell BKP9.out 1).trans rfl
       have hfs27 := blk_frozen BKP9.out 1
       refine skip_ (w1 := ?_) (by rfl) rfl ?_ ?_
       rotate_left
       ·go_simp
        rfl
       refine hK.out _ _ ?_
       clear hK K_
       refine done_ (by kernel_rfl) ?_
       go_wp2
       go_roundg (n0 - (k + 1))
       case measure => omega
       case rel => exact ⟨k + 1, nxN (nxN z), T ++ [⟨r1, r2, r3⟩], _, by omega, by have := HN0.out; exact congrArg (Value.int .i64) ((w64 (by omega) (by omega)).trans (by omega)), ⟨nxN_lt _⟩, ⟨by rw [List.length_append, HTL.out]; rfl⟩, HM2, ⟨blk_far (p := ⟨gp, 1, none⟩) BKR9.out HRP.out _⟩, ⟨blk_far (p := ⟨gp, 1, none⟩) BKZ9.out HZP.out _⟩, ⟨blk_put (cs := #[.int .i64 (a0.size : Int), v]) BKP9.out 1 _ rfl⟩, ⟨by have h9 := HO9.out; rw [List.length_append, List.length_singleton] at h9; exact Kd.R_set h9 BKP9.out (by decide) 1 _⟩, ⟨below_setCell HB9.out gp 1 _ (Nat.le_of_lt HGP.out)⟩⟩
      ·have hk5 : Int.tmod (nxN z : Int) 5 = 3 := hk5
       have ht : impl_Clue_told.f 40 3 (arg : Int) 0 a0 = some (r1, r2, r3) := ht
       have HTD := aM ht
       clear ht
       rw [if_neg (by omega), if_neg (by omega), if_pos rfl] at harg
       obtain ⟨ji, hji⟩ : ∃ j_ : Int, shl .i64 1 (a0.size : Int) = j_ := ⟨_, rfl⟩
       have hjv : ji = ((2 ^ a0.size : Nat) : Int) := by
        have h7 := HSZ.out
        rw [← hji]
        have hc : a0.size = 1 ∨ a0.size = 2 ∨ a0.size = 3 ∨ a0.size = 4 ∨ a0.size = 5 ∨ a0.size = 6 ∨ a0.size = 7 := by omega
        rcases hc with h | h | h | h | h | h | h <;> (rw [h]; decide +kernel)
       have hpos : 0 < 2 ^ a0.size := Nat.pow_pos (by omega)
       have hv : Int.tmod (nxN (nxN z) : Int) ji = (arg : Int) := by rw [harg, hjv]; exact tmodN _ _
       have hj0 : ¬ ji = 0 := by omega
       have hj1 : (ji == 0) = false := beq_eq_false_iff_ne.2 hj0
       clear hjv hpos
       have hji_ : (IntKind.i64.wrap (1 * 2 ^ min (a0.size : Int).toNat 64)) = ji := hji
       have hjiz : (a0.size : Int) ≤ 64 → (IntKind.i64.wrap (1 * 2 ^ (a0.size : Int).toNat)) = ji := shl_small hji
       have hjiu : (IntKind.i64.wrap (2 ^ min (a0.size : Int).toNat 64)) = ji := by have h_ := hji_; rw [Int.one_mul] at h_; exact h_
       have hjiv : (a0.size : Int) ≤ 64 → (IntKind.i64.wrap (2 ^ (a0.size : Int).toNat)) = ji := fun hle_ => by have h_ := hjiz hle_; rw [Int.one_mul] at h_; exact h_
       have hjiy : (wrap64 (1 * 2 ^ min (a0.size : Int).toNat 64)) = ji := (i64_w _).symm.trans hji_
       have hjiq : wrap64 (2 ^ min a0.size 64) = ji := by have h_ := hjiy; rw [Int.one_mul, Int.toNat_natCast] at h_; exact h_
       have hjip : IntKind.i64.wrap (2 ^ min a0.size 64) = ji := by have h_ := hjiu; rw [Int.toNat_natCast] at h_; exact h_
       have hjix : (a0.size : Int) ≤ 64 → (wrap64 (1 * 2 ^ (a0.size : Int).toNat)) = ji := fun h_ => (i64_w _).symm.trans (hjiz h_)
       clear harg
       go_wp2_with (first | ((with_reducible refine gate_dst (N := 36) rfl ?_); go_must (refine goesC_ (some 36) rfl rfl #[.pointer (some ⟨gz, 0, none⟩)] impl_MakePuzzle.f1 #[] rfl rfl (by (try simp only [List.map_toArray, List.map_cons, List.map_nil]); first | done | rfl) ?_; refine (impl_MakePuzzle.c1 gz z wr BKZ.out HZ.out).mono ?_; rintro e w2 ⟨rfl, hw⟩; refine ⟨_, rfl, ?_⟩; have HB2 := aM (show Below w.heap.size w w2 by rw [hw]; exact below_setCell HB.out gz 0 _ (Nat.le_of_lt HGZ.out)); have BKR2 := aM (show w2.heap[w.heap.size]? = some (.cells #[.int .i64 0, .slice none 0 0] 28 (0, 0)) by rw [hw]; exact blk_far (p := ⟨gz, 0, none⟩) BKR.out HRZ.out _); have BKZ2 := aM (show w2.heap[gz]? = some (.cells #[.int .i64 (nxN z)] 3 (0, 0)) by rw [hw]; exact blk_put BKZ.out 0 _ rfl); have BKP2 := aM (show w2.heap[gp]? = some (.cells #[.int .i64 (a0.size : Int), v] 28 (0, 0)) by rw [hw]; exact blk_far (p := ⟨gz, 0, none⟩) BKP.out (Ne.symm HZP.out) _); have HO2 := aM (show Kd.R k40 40 w2 w.heap.size (fun _ => True) v T by rw [hw]; exact Kd.R_set HO.out BKZ.out (by decide) 0 _); clear hw HB BKR BKZ BKP HO)) | ((with_reducible refine gate_dst (N := 11) rfl ?_); refine box_event ?hg (N := 11) ?hd (cs := #[.int .i64 0, .int .i64 0, .int .i64 0]) (t := 40) ?hr ?_; (case hd => rfl); (case hg => rfl); (case hr => first | (go_simp; done) | (go_simp; rfl)); intro gc hgc w3 hbox hb; have HB3 := aM (below_step HB2.out hb); have BKR3 := aM (blk_below BKR2.out hb); have BKZ3 := aM (blk_below BKZ2.out hb); have BKP3 := aM (blk_below BKP2.out hb); have HO3 := aM (Kd.R_below (Kd.R_mono (ok' := fun k => k ≠ gc) (Kd.R_bound HO2.out) (fun k hk => hgc ▸ Nat.ne_of_lt hk.2.2.1)) hb); have HRC := aM (show w.heap.size ≠ gc from hgc ▸ Nat.ne_of_lt (blk_lt BKR2.out)); have HGC := aM (show w.heap.size ≤ gc from hgc ▸ Nat.le_of_lt (blk_lt BKR2.out)); have HZC := aM (show gz ≠ gc from hgc ▸ Nat.ne_of_lt (blk_lt BKZ2.out)); have HPC := aM (show gp ≠ gc from hgc ▸ Nat.ne_of_lt (blk_lt BKP2.out)); have hcc0 := (blk_cell hbox 0).trans rfl; have hcc1 := (blk_cell hbox 1).trans rfl; have hcc2 := (blk_cell hbox 2).trans rfl; have hfc0 := blk_frozen hbox 0; have hfc1 := blk_frozen hbox 1; have hfc2 := blk_frozen hbox 2; have BKC3 := aM hbox; clear HB2 BKR2 BKZ2 BKP2 HO2; clear hbox hb hgc) | ((with_reducible refine gate_dst (N := 40) rfl ?_); go_must (refine goesC_ (some 40) rfl rfl #[.pointer (some ⟨gz, 0, none⟩)] impl_MakePuzzle.f1 #[] rfl rfl (by (try simp only [List.map_toArray, List.map_cons, List.map_nil]); first | done | rfl) ?_; refine (impl_MakePuzzle.c1 gz (nxN z) _ (blk_far (p := ⟨gc, 2, none⟩) (blk_far (p := ⟨gc, 1, none⟩) (blk_far (p := ⟨gc, 0, none⟩) BKZ3.out HZC.out _) HZC.out _) HZC.out _) (nxN_lt z)).mono ?_; rintro e w4 ⟨rfl, hw⟩; refine ⟨_, rfl, ?_⟩; clear hcc0 hcc1 hcc2 hfc0 hfc1 hfc2; have HB4 := aM (show Below w.heap.size w w4 by rw [hw]; exact below_setCell (below_setCell (below_setCell (below_setCell HB3.out gc 0 _ HGC.out) gc 1 _ HGC.out) gc 2 _ HGC.out) gz 0 _ (Nat.le_of_lt HGZ.out)); have BKR4 := aM (show w4.heap[w.heap.size]? = some (.cells #[.int .i64 0, .slice none 0 0] 28 (0, 0)) by rw [hw]; exact blk_far (p := ⟨gz, 0, none⟩) (blk_far (p := ⟨gc, 2, none⟩) (blk_far (p := ⟨gc, 1, none⟩) (blk_far (p := ⟨gc, 0, none⟩) BKR3.out HRC.out _) HRC.out _) HRC.out _) HRZ.out _); have BKZ4 := aM (show w4.heap[gz]? = some (.cells #[.int .i64 (nxN (nxN z))] 3 (0, 0)) by rw [hw]; exact blk_put (blk_far (p := ⟨gc, 2, none⟩) (blk_far (p := ⟨gc, 1, none⟩) (blk_far (p := ⟨gc, 0, none⟩) BKZ3.out HZC.out _) HZC.out _) HZC.out _) 0 _ rfl); have BKP4 := aM (show w4.heap[gp]? = some (.cells #[.int .i64 (a0.size : Int), v] 28 (0, 0)) by rw [hw]; exact blk_far (p := ⟨gz, 0, none⟩) (blk_far (p := ⟨gc, 2, none⟩) (blk_far (p := ⟨gc, 1, none⟩) (blk_far (p := ⟨gc, 0, none⟩) BKP3.out HPC.out _) HPC.out _) HPC.out _) (Ne.symm HZP.out) _); have BKC4 := aM (show w4.heap[gc]? = some (.cells #[.int .i64 3, .int .i64 0, .int .i64 0] 40 (0, 0)) by rw [hw]; exact blk_far (p := ⟨gz, 0, none⟩) (blk_put (cs' := #[.int .i64 3, .int .i64 0, .int .i64 0]) (blk_put (cs' := #[.int .i64 3, .int .i64 0, .int .i64 0]) (blk_put (cs' := #[.int .i64 3, .int .i64 0, .int .i64 0]) BKC3.out 0 _ rfl) 1 _ rfl) 2 _ rfl) (Ne.symm HZC.out) _); have HO4 := aM (show Kd.R k40 40 w4 w.heap.size (fun k => k ≠ gc) v T by rw [hw]; exact Kd.R_set (Kd.R_far (p := ⟨gc, 2, none⟩) (Kd.R_far (p := ⟨gc, 1, none⟩) (Kd.R_far (p := ⟨gc, 0, none⟩) HO3.out (fun _ hk => hk) _) (fun _ hk => hk) _) (fun _ hk => hk) _) (blk_far (p := ⟨gc, 2, none⟩) (blk_far (p := ⟨gc, 1, none⟩) (blk_far (p := ⟨gc, 0, none⟩) BKZ3.out HZC.out _) HZC.out _) HZC.out _) (by decide) 0 _); have hck := (blk_cell BKC4.out 0).trans rfl; have hca := (blk_cell BKC4.out 1).trans rfl; have hfa := blk_frozen BKC4.out 1; clear hw HB3 BKR3 BKZ3 BKP3 HO3 BKC3)))
       have HB7 := aM (below_setCell HB4.out gc 1 (.int .i64 (arg : Int)) HGC.out)
       have BKR7 := aM (blk_far (p := ⟨gc, 1, none⟩) BKR4.out HRC.out (.int .i64 (arg : Int)))
       have BKZ7 := aM (blk_far (p := ⟨gc, 1, none⟩) BKZ4.out HZC.out (.int .i64 (arg : Int)))
       have BKP7 := aM (blk_far (p := ⟨gc, 1, none⟩) BKP4.out HPC.out (.int .i64 (arg : Int)))
       have BKC7 := aM (blk_put (cs' := #[.int .i64 3, .int .i64 arg, .int .i64 0]) BKC4.out 1 (.int .i64 (arg : Int)) rfl)
       have HO7 := aM (Kd.R_far (p := ⟨gc, 1, none⟩) HO4.out (fun _ hk => hk) (.int .i64 (arg : Int)))
       clear HB4 BKR4 BKZ4 BKP4 BKC4 HO4 hck hca hfa
       generalize w4.setCell ⟨gc, 1, none⟩ (.int .i64 (arg : Int)) = W7 at HB7 BKR7 BKZ7 BKP7 BKC7 HO7 ⊢
       refine start_ (n := 9) (S := fun w' => w'.cell? ⟨gp, 1, none⟩ = some v ∧ w'.cell? ⟨gc, 0, none⟩ = some (.int .i64 3) ∧ w'.cell? ⟨gc, 1, none⟩ = some (.int .i64 (arg : Int)) ∧ w'.cell? ⟨gc, 2, none⟩ = some (.int .i64 0)) (ds := [8]) (bn 9 0) (by kernel_rfl) rfl rfl ⟨(blk_cell BKP7.out 1).trans rfl, (blk_cell BKC7.out 0).trans rfl, (blk_cell BKC7.out 1).trans rfl, (blk_cell BKC7.out 2).trans rfl⟩ (fun hHeld => ?_)
       have n0_ := aM (Kd.R_drew HO7.out)
       have n1_ := aM (blk_drew BKR7.out)
       have n2_ := aM (blk_drew BKZ7.out)
       have n3_ := aM (blk_drew BKP7.out)
       have n4_ := aM (blk_drew BKC7.out)
       have n5_ := aM (below_drew1 HB7.out)
       clear HO7 BKR7 BKZ7 BKP7 BKC7 HB7
       have HO7 := n0_
       have BKR7 := n1_
       have BKZ7 := n2_
       have BKP7 := n3_
       have BKC7 := n4_
       have HB7 := n5_
       clear n0_ n1_ n2_ n3_ n4_ n5_
       generalize W7.drew = W8 at HO7 BKR7 BKZ7 BKP7 BKC7 HB7 hHeld ⊢
       refine pure_ (i := 0) (N := some 65) (v := ?_) (a' := ?_) (bn 9 1) rfl rfl (by kernel_rfl) (fun _ _ _ h => h) (Or.inl ⟨by rfl, ?_⟩) ?_ ?_
       rotate_left
       ·intro w'
        go_simp
        with_reducible rfl
       rotate_left
       ·simp only [Act.put, List.setIfInBounds_toArray, List.set_cons_zero, List.set_cons_succ, i64_w, i32_w]
        rfl
       refine pure_ (i := 3) (N := some 68) (v := ?_) (a' := ?_) (bn 9 9) rfl rfl (by kernel_rfl) (fun _ _ _ h => h) (Or.inl ⟨by rfl, ?_⟩) ?_ ?_
       rotate_left
       ·intro w'
        go_simp
        with_reducible rfl
       rotate_left
       ·simp only [Act.put, List.setIfInBounds_toArray, List.set_cons_zero, List.set_cons_succ, i64_w, i32_w]
        rfl
       refine take_ (i := 1) (N := some 66) (v := ?_) (a' := ?_) (bn 9 11) rfl rfl (by kernel_rfl) (fun _ _ _ h => h) (Or.inl ⟨by rfl, ?_⟩) hHeld ?_ ?_
       rotate_left
       ·rintro w' ⟨s0, s1, s2, s3⟩
        go_simp
        with_reducible rfl
       rotate_left
       ·simp only [Act.put, List.setIfInBounds_toArray, List.set_cons_zero, List.set_cons_succ, i64_w, i32_w]
        rfl
       refine take_ (i := 2) (N := some 67) (v := ?_) (a' := ?_) (bn 9 15) rfl rfl (by kernel_rfl) (fun _ _ _ h => h) (Or.inl ⟨by rfl, ?_⟩) hHeld ?_ ?_
       rotate_left
       ·rintro w' ⟨s0, s1, s2, s3⟩
        go_simp
        with_reducible rfl
       rotate_left
       ·simp only [Act.put, List.setIfInBounds_toArray, List.set_cons_zero, List.set_cons_succ, i64_w, i32_w]
        rfl
       refine one_ (i := 4) (N := some 69) (bn 9 31) rfl rfl (by kernel_rfl) (by decide) (fun K_ hK => ?_)
       refine goes_ Tryz.func42 (by kernel_rfl) rfl #[.agg #[.int .i64 3, .int .i64 (arg : Int), .int .i64 0], .string a0] (by rfl) rfl rfl (by (try simp only [List.map_toArray, List.map_cons, List.map_nil]); first | done | rfl) ?_
       refine (impl_Clue_told.calls 40 3 (arg : Int) 0 a0 r1 r2 r3 _ HTD.out).mono ?_
       rintro e w9 ⟨rfl, hb⟩
       refine ⟨_, rfl, ?_⟩
       have n0_ := aM (Kd.R_below HO7.out hb)
       have n1_ := aM (blk_below BKR7.out hb)
       have n2_ := aM (blk_below BKZ7.out hb)
       have n3_ := aM (blk_below BKP7.out hb)
       have n4_ := aM (blk_below BKC7.out hb)
       have n5_ := aM (below_step HB7.out hb)
       clear HO7 BKR7 BKZ7 BKP7 BKC7 HB7 hb
       have HO7 := n0_
       have BKR7 := n1_
       have BKZ7 := n2_
       have BKP7 := n3_
       have BKC7 := n4_
       have HB7 := n5_
       clear n0_ n1_ n2_ n3_ n4_ n5_
       refine hK.out _ _ ⟨(blk_cell BKP7.out 1).trans rfl, (blk_cell BKC7.out 0).trans rfl, (blk_cell BKC7.out 1).trans rfl, (blk_cell BKC7.out 2).trans rfl⟩ (fun hHeld => ?_)
       clear hK K_
       refine norm_ (a' := ?_) ?_ ?_
       rotate_left
       ·show Act.put _ (some 69) _ = _
        simp only [Act.put, List.setIfInBounds_toArray, List.set_cons_zero, List.set_cons_succ, i64_w, i32_w]
        rfl
       refine one_ (i := 5) (N := some 70) (bn 9 63) rfl rfl (by kernel_rfl) (by decide) (fun K_ hK => ?_)
       refine value_ (w1 := ?_) (v := ?_) (by rfl) rfl ?_ ?_
       rotate_left 2
       ·go_simp
        constructor
        ·rfl
        rfl
       refine hK.out _ _ ⟨(blk_cell (blk_alloc BKP7.out _) 1).trans rfl, (blk_cell (blk_alloc BKC7.out _) 0).trans rfl, (blk_cell (blk_alloc BKC7.out _) 1).trans rfl, (blk_cell (blk_alloc BKC7.out _) 2).trans rfl⟩ (fun hHeld => ?_)
       clear hK K_
       refine norm_ (a' := ?_) ?_ ?_
       rotate_left
       ·show Act.put _ (some 70) _ = _
        simp only [Act.put, List.setIfInBounds_toArray, List.set_cons_zero, List.set_cons_succ, i64_w, i32_w]
        rfl
       refine one_ (i := 6) (N := some 71) (bn 9 127) rfl rfl (by kernel_rfl) (by decide) (fun K_ hK => ?_)
       refine Kd.R_append_step k40 (w0 := w) w.heap.size (by rfl) (.tmp 66) (.tmp 70) 26 40 (.agg #[(.int .i64 0), (.int .i64 0), (.int .i64 0)]) 24 rfl Tryz.underlying26 info40 rfl (by decide) (by omega) v T (⟨r1, r2, r3⟩ : S40) [.int .i64 r1, .int .i64 r2, .int .i64 r3] (fun _ => True) (fun _ => False) rfl rfl ?aP (fun _ hk => hk.elim) ?aF ?aO ?aB ?aS ?aL ?_
       (case aP => exact k40_mkM _ _ _ (⟨r1, r2, r3⟩ : S40))
       (case aB => exact HB7.out)
       (case aF => exact (fun _ _ => trivial))
       (case aO => exact Kd.R_mono HO7.out (fun _ _ => trivial))
       (case aS => exact below_size HB7.out)
       (case aL => have := HTL.out; have := HN0.out; omega)
       intro v125 w25 ho hb hg hat
       have n1_ := aM (blk_grown BKR7.out hg (Kd.R_ne HO7.out BKR7.out (by decide)))
       have n2_ := aM (blk_grown BKZ7.out hg (Kd.R_ne HO7.out BKZ7.out (by decide)))
       have n3_ := aM (blk_grown BKP7.out hg (Kd.R_ne HO7.out BKP7.out (by decide)))
       have HO9 := aM ho
       have HB9 := aM hb
       have hgc9 : w25.heap[gc]? = some (.cells #[.int .i64 3, .int .i64 (arg : Int), .int .i64 0] 40 (0, 0)) := blk_grown BKC7.out hg (fun he => HO7.out.1 gc he.symm rfl)
       have BKC9 := aM hgc9
       clear hgc9 ho hb hg hat BKR7 BKZ7 BKP7 BKC7 HB7 HO7
       have BKR9 := n1_
       have BKZ9 := n2_
       have BKP9 := n3_
       clear n1_ n2_ n3_
       obtain ⟨A9, c9, rfl⟩ := Kd.R_slice HO9.out
       refine hK.out _ _ ⟨(blk_cell BKP9.out 1).trans rfl, (blk_cell BKC9.out 0).trans rfl, (blk_cell BKC9.out 1).trans rfl, (blk_cell BKC9.out 2).trans rfl⟩ (fun hHeld => ?_)
       clear hK K_
       refine norm_ (a' := ?_) ?_ ?_
       rotate_left
       ·show Act.put _ (some 71) _ = _
        simp only [Act.put, List.setIfInBounds_toArray, List.set_cons_zero, List.set_cons_succ, i64_w, i32_w]
        rfl
       refine pure_ (i := 7) (N := some 72) (v := ?_) (a' := ?_) (bn 9 255) rfl rfl (by kernel_rfl) (fun _ _ _ h => h) (Or.inl ⟨by rfl, ?_⟩) ?_ ?_
       rotate_left
       ·intro w'
        go_simp
        with_reducible rfl
       rotate_left
       ·simp only [Act.put, List.setIfInBounds_toArray, List.set_cons_zero, List.set_cons_succ, i64_w, i32_w]
        rfl
       refine last_ (i := 8) (N := none) #[true, true, true, true, true, true, true, true, true] rfl rfl (by kernel_rfl) (by decide) (fun K_ hK => ?_)
       have hs27 : w25.cell? ⟨gp, 1, none⟩ = some v := (blk_cell BKP9.out 1).trans rfl
       have hfs27 := blk_frozen BKP9.out 1
       refine skip_ (w1 := ?_) (by rfl) rfl ?_ ?_
       rotate_left
       ·go_simp
        rfl
       refine hK.out _ _ ?_
       clear hK K_
       refine done_ (by kernel_rfl) ?_
       go_wp2
       go_roundg (n0 - (k + 1))
       case measure => omega
       case rel => exact ⟨k + 1, nxN (nxN z), T ++ [⟨r1, r2, r3⟩], _, by omega, by have := HN0.out; exact congrArg (Value.int .i64) ((w64 (by omega) (by omega)).trans (by omega)), ⟨nxN_lt _⟩, ⟨by rw [List.length_append, HTL.out]; rfl⟩, HM2, ⟨blk_far (p := ⟨gp, 1, none⟩) BKR9.out HRP.out _⟩, ⟨blk_far (p := ⟨gp, 1, none⟩) BKZ9.out HZP.out _⟩, ⟨blk_put (cs := #[.int .i64 (a0.size : Int), v]) BKP9.out 1 _ rfl⟩, ⟨by have h9 := HO9.out; rw [List.length_append, List.length_singleton] at h9; exact Kd.R_set h9 BKP9.out (by decide) 1 _⟩, ⟨below_setCell HB9.out gp 1 _ (Nat.le_of_lt HGP.out)⟩⟩
      have hk5 : Int.tmod (nxN z : Int) 5 = 4 := hk5
      have ht : impl_Clue_told.f 40 4 (arg : Int) 0 a0 = some (r1, r2, r3) := ht
      have HTD := aM ht
      clear ht
      rw [if_pos (Or.inr rfl)] at harg
      have hv : Int.tmod (nxN (nxN z) : Int) (a0.size : Int) = (arg : Int) := by rw [harg]; exact tmodN _ _
      have hs0 : ¬ a0.size = 0 := by have := HSZ.out; omega
      have hs1 : ((a0.size : Int) == 0) = false := beq_eq_false_iff_ne.2 (by omega)
      clear harg
      go_wp2_with (first | ((with_reducible refine gate_dst (N := 36) rfl ?_); go_must (refine goesC_ (some 36) rfl rfl #[.pointer (some ⟨gz, 0, none⟩)] impl_MakePuzzle.f1 #[] rfl rfl (by (try simp only [List.map_toArray, List.map_cons, List.map_nil]); first | done | rfl) ?_; refine (impl_MakePuzzle.c1 gz z wr BKZ.out HZ.out).mono ?_; rintro e w2 ⟨rfl, hw⟩; refine ⟨_, rfl, ?_⟩; have HB2 := aM (show Below w.heap.size w w2 by rw [hw]; exact below_setCell HB.out gz 0 _ (Nat.le_of_lt HGZ.out)); have BKR2 := aM (show w2.heap[w.heap.size]? = some (.cells #[.int .i64 0, .slice none 0 0] 28 (0, 0)) by rw [hw]; exact blk_far (p := ⟨gz, 0, none⟩) BKR.out HRZ.out _); have BKZ2 := aM (show w2.heap[gz]? = some (.cells #[.int .i64 (nxN z)] 3 (0, 0)) by rw [hw]; exact blk_put BKZ.out 0 _ rfl); have BKP2 := aM (show w2.heap[gp]? = some (.cells #[.int .i64 (a0.size : Int), v] 28 (0, 0)) by rw [hw]; exact blk_far (p := ⟨gz, 0, none⟩) BKP.out (Ne.symm HZP.out) _); have HO2 := aM (show Kd.R k40 40 w2 w.heap.size (fun _ => True) v T by rw [hw]; exact Kd.R_set HO.out BKZ.out (by decide) 0 _); clear hw HB BKR BKZ BKP HO)) | ((with_reducible refine gate_dst (N := 11) rfl ?_); refine box_event ?hg (N := 11) ?hd (cs := #[.int .i64 0, .int .i64 0, .int .i64 0]) (t := 40) ?hr ?_; (case hd => rfl); (case hg => rfl); (case hr => first | (go_simp; done) | (go_simp; rfl)); intro gc hgc w3 hbox hb; have HB3 := aM (below_step HB2.out hb); have BKR3 := aM (blk_below BKR2.out hb); have BKZ3 := aM (blk_below BKZ2.out hb); have BKP3 := aM (blk_below BKP2.out hb); have HO3 := aM (Kd.R_below (Kd.R_mono (ok' := fun k => k ≠ gc) (Kd.R_bound HO2.out) (fun k hk => hgc ▸ Nat.ne_of_lt hk.2.2.1)) hb); have HRC := aM (show w.heap.size ≠ gc from hgc ▸ Nat.ne_of_lt (blk_lt BKR2.out)); have HGC := aM (show w.heap.size ≤ gc from hgc ▸ Nat.le_of_lt (blk_lt BKR2.out)); have HZC := aM (show gz ≠ gc from hgc ▸ Nat.ne_of_lt (blk_lt BKZ2.out)); have HPC := aM (show gp ≠ gc from hgc ▸ Nat.ne_of_lt (blk_lt BKP2.out)); have hcc0 := (blk_cell hbox 0).trans rfl; have hcc1 := (blk_cell hbox 1).trans rfl; have hcc2 := (blk_cell hbox 2).trans rfl; have hfc0 := blk_frozen hbox 0; have hfc1 := blk_frozen hbox 1; have hfc2 := blk_frozen hbox 2; have BKC3 := aM hbox; clear HB2 BKR2 BKZ2 BKP2 HO2; clear hbox hb hgc) | ((with_reducible refine gate_dst (N := 40) rfl ?_); go_must (refine goesC_ (some 40) rfl rfl #[.pointer (some ⟨gz, 0, none⟩)] impl_MakePuzzle.f1 #[] rfl rfl (by (try simp only [List.map_toArray, List.map_cons, List.map_nil]); first | done | rfl) ?_; refine (impl_MakePuzzle.c1 gz (nxN z) _ (blk_far (p := ⟨gc, 2, none⟩) (blk_far (p := ⟨gc, 1, none⟩) (blk_far (p := ⟨gc, 0, none⟩) BKZ3.out HZC.out _) HZC.out _) HZC.out _) (nxN_lt z)).mono ?_; rintro e w4 ⟨rfl, hw⟩; refine ⟨_, rfl, ?_⟩; clear hcc0 hcc1 hcc2 hfc0 hfc1 hfc2; have HB4 := aM (show Below w.heap.size w w4 by rw [hw]; exact below_setCell (below_setCell (below_setCell (below_setCell HB3.out gc 0 _ HGC.out) gc 1 _ HGC.out) gc 2 _ HGC.out) gz 0 _ (Nat.le_of_lt HGZ.out)); have BKR4 := aM (show w4.heap[w.heap.size]? = some (.cells #[.int .i64 0, .slice none 0 0] 28 (0, 0)) by rw [hw]; exact blk_far (p := ⟨gz, 0, none⟩) (blk_far (p := ⟨gc, 2, none⟩) (blk_far (p := ⟨gc, 1, none⟩) (blk_far (p := ⟨gc, 0, none⟩) BKR3.out HRC.out _) HRC.out _) HRC.out _) HRZ.out _); have BKZ4 := aM (show w4.heap[gz]? = some (.cells #[.int .i64 (nxN (nxN z))] 3 (0, 0)) by rw [hw]; exact blk_put (blk_far (p := ⟨gc, 2, none⟩) (blk_far (p := ⟨gc, 1, none⟩) (blk_far (p := ⟨gc, 0, none⟩) BKZ3.out HZC.out _) HZC.out _) HZC.out _) 0 _ rfl); have BKP4 := aM (show w4.heap[gp]? = some (.cells #[.int .i64 (a0.size : Int), v] 28 (0, 0)) by rw [hw]; exact blk_far (p := ⟨gz, 0, none⟩) (blk_far (p := ⟨gc, 2, none⟩) (blk_far (p := ⟨gc, 1, none⟩) (blk_far (p := ⟨gc, 0, none⟩) BKP3.out HPC.out _) HPC.out _) HPC.out _) (Ne.symm HZP.out) _); have BKC4 := aM (show w4.heap[gc]? = some (.cells #[.int .i64 4, .int .i64 0, .int .i64 0] 40 (0, 0)) by rw [hw]; exact blk_far (p := ⟨gz, 0, none⟩) (blk_put (cs' := #[.int .i64 4, .int .i64 0, .int .i64 0]) (blk_put (cs' := #[.int .i64 4, .int .i64 0, .int .i64 0]) (blk_put (cs' := #[.int .i64 4, .int .i64 0, .int .i64 0]) BKC3.out 0 _ rfl) 1 _ rfl) 2 _ rfl) (Ne.symm HZC.out) _); have HO4 := aM (show Kd.R k40 40 w4 w.heap.size (fun k => k ≠ gc) v T by rw [hw]; exact Kd.R_set (Kd.R_far (p := ⟨gc, 2, none⟩) (Kd.R_far (p := ⟨gc, 1, none⟩) (Kd.R_far (p := ⟨gc, 0, none⟩) HO3.out (fun _ hk => hk) _) (fun _ hk => hk) _) (fun _ hk => hk) _) (blk_far (p := ⟨gc, 2, none⟩) (blk_far (p := ⟨gc, 1, none⟩) (blk_far (p := ⟨gc, 0, none⟩) BKZ3.out HZC.out _) HZC.out _) HZC.out _) (by decide) 0 _); have hck := (blk_cell BKC4.out 0).trans rfl; have hca := (blk_cell BKC4.out 1).trans rfl; have hfa := blk_frozen BKC4.out 1; clear hw HB3 BKR3 BKZ3 BKP3 HO3 BKC3)))
      have HB7 := aM (below_setCell HB4.out gc 1 (.int .i64 (arg : Int)) HGC.out)
      have BKR7 := aM (blk_far (p := ⟨gc, 1, none⟩) BKR4.out HRC.out (.int .i64 (arg : Int)))
      have BKZ7 := aM (blk_far (p := ⟨gc, 1, none⟩) BKZ4.out HZC.out (.int .i64 (arg : Int)))
      have BKP7 := aM (blk_far (p := ⟨gc, 1, none⟩) BKP4.out HPC.out (.int .i64 (arg : Int)))
      have BKC7 := aM (blk_put (cs' := #[.int .i64 4, .int .i64 arg, .int .i64 0]) BKC4.out 1 (.int .i64 (arg : Int)) rfl)
      have HO7 := aM (Kd.R_far (p := ⟨gc, 1, none⟩) HO4.out (fun _ hk => hk) (.int .i64 (arg : Int)))
      clear HB4 BKR4 BKZ4 BKP4 BKC4 HO4 hck hca hfa
      generalize w4.setCell ⟨gc, 1, none⟩ (.int .i64 (arg : Int)) = W7 at HB7 BKR7 BKZ7 BKP7 BKC7 HO7 ⊢
      refine start_ (n := 9) (S := fun w' => w'.cell? ⟨gp, 1, none⟩ = some v ∧ w'.cell? ⟨gc, 0, none⟩ = some (.int .i64 4) ∧ w'.cell? ⟨gc, 1, none⟩ = some (.int .i64 (arg : Int)) ∧ w'.cell? ⟨gc, 2, none⟩ = some (.int .i64 0)) (ds := [8]) (bn 9 0) (by kernel_rfl) rfl rfl ⟨(blk_cell BKP7.out 1).trans rfl, (blk_cell BKC7.out 0).trans rfl, (blk_cell BKC7.out 1).trans rfl, (blk_cell BKC7.out 2).trans rfl⟩ (fun hHeld => ?_)
      have n0_ := aM (Kd.R_drew HO7.out)
      have n1_ := aM (blk_drew BKR7.out)
      have n2_ := aM (blk_drew BKZ7.out)
      have n3_ := aM (blk_drew BKP7.out)
      have n4_ := aM (blk_drew BKC7.out)
      have n5_ := aM (below_drew1 HB7.out)
      clear HO7 BKR7 BKZ7 BKP7 BKC7 HB7
      have HO7 := n0_
      have BKR7 := n1_
      have BKZ7 := n2_
      have BKP7 := n3_
      have BKC7 := n4_
      have HB7 := n5_
      clear n0_ n1_ n2_ n3_ n4_ n5_
      generalize W7.drew = W8 at HO7 BKR7 BKZ7 BKP7 BKC7 HB7 hHeld ⊢
      refine pure_ (i := 0) (N := some 65) (v := ?_) (a' := ?_) (bn 9 1) rfl rfl (by kernel_rfl) (fun _ _ _ h => h) (Or.inl ⟨by rfl, ?_⟩) ?_ ?_
      rotate_left
      ·intro w'
       go_simp
       with_reducible rfl
      rotate_left
      ·simp only [Act.put, List.setIfInBounds_toArray, List.set_cons_zero, List.set_cons_succ, i64_w, i32_w]
       rfl
      refine pure_ (i := 3) (N := some 68) (v := ?_) (a' := ?_) (bn 9 9) rfl rfl (by kernel_rfl) (fun _ _ _ h => h) (Or.inl ⟨by rfl, ?_⟩) ?_ ?_
      rotate_left
      ·intro w'
       go_simp
       with_reducible rfl
      rotate_left
      ·simp only [Act.put, List.setIfInBounds_toArray, List.set_cons_zero, List.set_cons_succ, i64_w, i32_w]
       rfl
      refine take_ (i := 1) (N := some 66) (v := ?_) (a' := ?_) (bn 9 11) rfl rfl (by kernel_rfl) (fun _ _ _ h => h) (Or.inl ⟨by rfl, ?_⟩) hHeld ?_ ?_
      rotate_left
      ·rintro w' ⟨s0, s1, s2, s3⟩
       go_simp
       with_reducible rfl
      rotate_left
      ·simp only [Act.put, List.setIfInBounds_toArray, List.set_cons_zero, List.set_cons_succ, i64_w, i32_w]
       rfl
      refine take_ (i := 2) (N := some 67) (v := ?_) (a' := ?_) (bn 9 15) rfl rfl (by kernel_rfl) (fun _ _ _ h => h) (Or.inl ⟨by rfl, ?_⟩) hHeld ?_ ?_
      rotate_left
      ·rintro w' ⟨s0, s1, s2, s3⟩
       go_simp
       with_reducible rfl
      rotate_left
      ·simp only [Act.put, List.setIfInBounds_toArray, List.set_cons_zero, List.set_cons_succ, i64_w, i32_w]
       rfl
      refine one_ (i := 4) (N := some 69) (bn 9 31) rfl rfl (by kernel_rfl) (by decide) (fun K_ hK => ?_)
      refine goes_ Tryz.func42 (by kernel_rfl) rfl #[.agg #[.int .i64 4, .int .i64 (arg : Int), .int .i64 0], .string a0] (by rfl) rfl rfl (by (try simp only [List.map_toArray, List.map_cons, List.map_nil]); first | done | rfl) ?_
      refine (impl_Clue_told.calls 40 4 (arg : Int) 0 a0 r1 r2 r3 _ HTD.out).mono ?_
      rintro e w9 ⟨rfl, hb⟩
      refine ⟨_, rfl, ?_⟩
      have n0_ := aM (Kd.R_below HO7.out hb)
      have n1_ := aM (blk_below BKR7.out hb)
      have n2_ := aM (blk_below BKZ7.out hb)
      have n3_ := aM (blk_below BKP7.out hb)
      have n4_ := aM (blk_below BKC7.out hb)
      have n5_ := aM (below_step HB7.out hb)
      clear HO7 BKR7 BKZ7 BKP7 BKC7 HB7 hb
      have HO7 := n0_
      have BKR7 := n1_
      have BKZ7 := n2_
      have BKP7 := n3_
      have BKC7 := n4_
      have HB7 := n5_
      clear n0_ n1_ n2_ n3_ n4_ n5_
      refine hK.out _ _ ⟨(blk_cell BKP7.out 1).trans rfl, (blk_cell BKC7.out 0).trans rfl, (blk_cell BKC7.out 1).trans rfl, (blk_cell BKC7.out 2).trans rfl⟩ (fun hHeld => ?_)
      clear hK K_
      refine norm_ (a' := ?_) ?_ ?_
      rotate_left
      ·show Act.put _ (some 69) _ = _
       simp only [Act.put, List.setIfInBounds_toArray, List.set_cons_zero, List.set_cons_succ, i64_w, i32_w]
       rfl
      refine one_ (i := 5) (N := some 70) (bn 9 63) rfl rfl (by kernel_rfl) (by decide) (fun K_ hK => ?_)
      refine value_ (w1 := ?_) (v := ?_) (by rfl) rfl ?_ ?_
      rotate_left 2
      ·go_simp
       constructor
       ·rfl
       rfl
      refine hK.out _ _ ⟨(blk_cell (blk_alloc BKP7.out _) 1).trans rfl, (blk_cell (blk_alloc BKC7.out _) 0).trans rfl, (blk_cell (blk_alloc BKC7.out _) 1).trans rfl, (blk_cell (blk_alloc BKC7.out _) 2).trans rfl⟩ (fun hHeld => ?_)
      clear hK K_
      refine norm_ (a' := ?_) ?_ ?_
      rotate_left
      ·show Act.put _ (some 70) _ = _
       simp only [Act.put, List.setIfInBounds_toArray, List.set_cons_zero, List.set_cons_succ, i64_w, i32_w]
       rfl
      refine one_ (i := 6) (N := some 71) (bn 9 127) rfl rfl (by kernel_rfl) (by decide) (fun K_ hK => ?_)
      refine Kd.R_append_step k40 (w0 := w) w.heap.size (by rfl) (.tmp 66) (.tmp 70) 26 40 (.agg #[(.int .i64 0), (.int .i64 0), (.int .i64 0)]) 24 rfl Tryz.underlying26 info40 rfl (by decide) (by omega) v T (⟨r1, r2, r3⟩ : S40) [.int .i64 r1, .int .i64 r2, .int .i64 r3] (fun _ => True) (fun _ => False) rfl rfl ?aP (fun _ hk => hk.elim) ?aF ?aO ?aB ?aS ?aL ?_
      (case aP => exact k40_mkM _ _ _ (⟨r1, r2, r3⟩ : S40))
      (case aB => exact HB7.out)
      (case aF => exact (fun _ _ => trivial))
      (case aO => exact Kd.R_mono HO7.out (fun _ _ => trivial))
      (case aS => exact below_size HB7.out)
      (case aL => have := HTL.out; have := HN0.out; omega)
      intro v125 w25 ho hb hg hat
      have n1_ := aM (blk_grown BKR7.out hg (Kd.R_ne HO7.out BKR7.out (by decide)))
      have n2_ := aM (blk_grown BKZ7.out hg (Kd.R_ne HO7.out BKZ7.out (by decide)))
      have n3_ := aM (blk_grown BKP7.out hg (Kd.R_ne HO7.out BKP7.out (by decide)))
      have HO9 := aM ho
      have HB9 := aM hb
      have hgc9 : w25.heap[gc]? = some (.cells #[.int .i64 4, .int .i64 (arg : Int), .int .i64 0] 40 (0, 0)) := blk_grown BKC7.out hg (fun he => HO7.out.1 gc he.symm rfl)
      have BKC9 := aM hgc9
      clear hgc9 ho hb hg hat BKR7 BKZ7 BKP7 BKC7 HB7 HO7
      have BKR9 := n1_
      have BKZ9 := n2_
      have BKP9 := n3_
      clear n1_ n2_ n3_
      obtain ⟨A9, c9, rfl⟩ := Kd.R_slice HO9.out
      refine hK.out _ _ ⟨(blk_cell BKP9.out 1).trans rfl, (blk_cell BKC9.out 0).trans rfl, (blk_cell BKC9.out 1).trans rfl, (blk_cell BKC9.out 2).trans rfl⟩ (fun hHeld => ?_)
      clear hK K_
      refine norm_ (a' := ?_) ?_ ?_
      rotate_left
      ·show Act.put _ (some 71) _ = _
       simp only [Act.put, List.setIfInBounds_toArray, List.set_cons_zero, List.set_cons_succ, i64_w, i32_w]
       rfl
      refine pure_ (i := 7) (N := some 72) (v := ?_) (a' := ?_) (bn 9 255) rfl rfl (by kernel_rfl) (fun _ _ _ h => h) (Or.inl ⟨by rfl, ?_⟩) ?_ ?_
      rotate_left
      ·intro w'
       go_simp
       with_reducible rfl
      rotate_left
      ·simp only [Act.put, List.setIfInBounds_toArray, List.set_cons_zero, List.set_cons_succ, i64_w, i32_w]
       rfl
      refine last_ (i := 8) (N := none) #[true, true, true, true, true, true, true, true, true] rfl rfl (by kernel_rfl) (by decide) (fun K_ hK => ?_)
      have hs27 : w25.cell? ⟨gp, 1, none⟩ = some v := (blk_cell BKP9.out 1).trans rfl
      have hfs27 := blk_frozen BKP9.out 1
      refine skip_ (w1 := ?_) (by rfl) rfl ?_ ?_
      rotate_left
      ·go_simp
       rfl
      refine hK.out _ _ ?_
      clear hK K_
      refine done_ (by kernel_rfl) ?_
      go_wp2
      go_roundg (n0 - (k + 1))
      case measure => omega
      case rel => exact ⟨k + 1, nxN (nxN z), T ++ [⟨r1, r2, r3⟩], _, by omega, by have := HN0.out; exact congrArg (Value.int .i64) ((w64 (by omega) (by omega)).trans (by omega)), ⟨nxN_lt _⟩, ⟨by rw [List.length_append, HTL.out]; rfl⟩, HM2, ⟨blk_far (p := ⟨gp, 1, none⟩) BKR9.out HRP.out _⟩, ⟨blk_far (p := ⟨gp, 1, none⟩) BKZ9.out HZP.out _⟩, ⟨blk_put (cs := #[.int .i64 (a0.size : Int), v]) BKP9.out 1 _ rfl⟩, ⟨by have h9 := HO9.out; rw [List.length_append, List.length_singleton] at h9; exact Kd.R_set h9 BKP9.out (by decide) 1 _⟩, ⟨below_setCell HB9.out gp 1 _ (Nat.le_of_lt HGP.out)⟩⟩
     have hkn : k = n0 := by omega
     subst hkn
     have hm := HM.out
     rw [Nat.sub_self, mkP] at hm
     obtain rfl := Option.some.inj hm
     clear hm HM
     obtain ⟨A, c, rfl⟩ := Kd.R_slice HO.out
     have hcp0 := (blk_cell BKP.out 0).trans rfl
     have hcp1 := (blk_cell BKP.out 1).trans rfl
     have hcR0 := (blk_cell BKR.out 0).trans rfl
     have hcR1 := (blk_cell BKR.out 1).trans rfl
     have hfR0 := blk_frozen BKR.out 0
     have hfR1 := blk_frozen BKR.out 1
     go_wp2
     refine bodyPost_ret (results_ct rfl _ _ w.heap.size 28 #[.int .i64 (a0.size : Int), .slice A T.length c] (0, 0) _ rfl (blk_put (cs' := #[.int .i64 (a0.size : Int), .slice A T.length c]) (blk_put (cs' := #[.int .i64 (a0.size : Int), .slice none 0 0]) BKR.out 0 _ rfl) 1 _ rfl) Tryz.underlying28 rfl (by kernel_rfl)) rfl ?_
     exact ⟨_, rfl, Kd.R_set (Kd.R_set HO.out BKR.out (by decide) 0 _) (blk_put (cs' := #[.int .i64 (a0.size : Int), .slice none 0 0]) BKR.out 0 _ rfl) (by decide) 1 _, below_setCell (below_setCell HB.out w.heap.size 0 _ (Nat.le_refl _)) w.heap.size 1 _ (Nat.le_refl _)⟩

end Go.Proofs.YtpdkjehplfgjcabGreatDoor.PHid
