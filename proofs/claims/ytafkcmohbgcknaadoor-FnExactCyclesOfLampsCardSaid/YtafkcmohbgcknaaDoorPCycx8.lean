-- PRINTED by drive.py (a program of this session's, over the kit's print.py; wip/tools/drive.py). Lean checks it.
import Derived.Test.YtafkcmohbgcknaaDoorPCycx0
import Derived.Test.YtafkcmohbgcknaaDoorPCycx1
import Derived.Test.YtafkcmohbgcknaaDoorPCycx4
import Derived.Test.YtafkcmohbgcknaaDoorPCycx5
import Derived.Test.YtafkcmohbgcknaaDoorPCycx6
import Derived.Test.YtafkcmohbgcknaaDoorPCycx7
namespace Go.Proofs.YtafkcmohbgcknaaDoor.PCyc
open Go.RowKit Go.Proofs.YtafkcmohbgcknaaDoorW.PrintWords Go.Proofs.YtafkcmohbgcknaaDoorW.PrintLast Go.Proofs.YtafkcmohbgcknaaDoorW.PrintMore
attribute [local go_sem] max2_int min2_int max_two min_two max_three min_three max_four min_four   -- for this text's walks alone
set_option linter.unusedVariables false
set_option linter.unusedSimpArgs false

/-! ### laws_markIntSS: function 11 -/
-- by hand (wip/ext/markIntSS.tpl)
def laws_markIntSS.l0 : Nat → List (List Int) → Int → Int → Option (Int × List (List Int))
  | 0, _, _, _ => none
  | k + 1, l, a, i => if i < (l.length : Int) then (if 0 ≤ i then ((laws_markIntS.f k (l.getD i.toNat []) a).bind fun bt => laws_markIntSS.l0 k (l.set i.toNat bt.2) bt.1 (wrap64 (i + 1))) else none) else some (a, l)
def laws_markIntSS.f (k : Nat) (l0 : List (List Int)) (a1 : Int) : Option (Int × List (List Int)) := laws_markIntSS.l0 k l0 a1 0
theorem laws_markIntSS.mono_l : ∀ k x y z, LeO (laws_markIntSS.l0 k x y z) (laws_markIntSS.l0 (k + 1) x y z)
  | 0 => fun _ _ _ r h => by simp [laws_markIntSS.l0] at h
  | k + 1 => by
    have ih := laws_markIntSS.mono_l k
    intro x y z
    rw [laws_markIntSS.l0]
    conv => rhs; rw [laws_markIntSS.l0]
    refine LeO.ite (LeO.ite (LeO.bind (laws_markIntS.mono _ _ k) fun _ => ih _ _ _) (LeO.refl _)) (LeO.refl _)
theorem laws_markIntSS.mono : ∀ a0 a1 k, LeO (laws_markIntSS.f k a0 a1) (laws_markIntSS.f (k + 1) a0 a1) := fun a0 a1 k => laws_markIntSS.mono_l k a0 a1 0
set_option maxHeartbeats 8000000 in
set_option maxRecDepth 100000 in
/-- Each row of rows that lie apart is marked: the rows of the one with the hole (Kd.S_lend), put back behind each call. -/
theorem laws_markIntSS.calls (k : Nat) (P0_ : Nat → Prop) (v : Value) (l0 : List (List Int)) (a1 : Int) (r1 : Int) (r2 : List (List Int)) (w0 w : World) (hB : Below w0.heap.size w0 w) (ho0 : Kd.S (Kd.slice 3 (Kd.int .i64)) 38 w w0.heap.size P0_ v l0) (h : laws_markIntSS.f k l0 a1 = some (r1, r2)) :
    Calls Tryd.prog 11 #[v, .int .i64 a1] w fun e w' => e = .returned (.int .i64 r1) ∧ Kd.S (Kd.slice 3 (Kd.int .i64)) 38 w' w0.heap.size P0_ v r2 ∧ Below w0.heap.size w0 w' ∧ Kept w w' P0_ := by
  obtain ⟨A, c, rfl⟩ := Kd.S_slice ho0
  have HO := Aside0.mk ho0
  have HB := Aside0.mk hB
  have HK := Aside0.mk (Kept.refl w P0_)
  clear ho0 hB
  have H' := Aside0.mk (show laws_markIntSS.l0 k l0 a1 0 = some (r1, r2) from h)
  clear h
  go_enter Tryd.func11, Tryd.ntmps11
  go_wp2
  go_loopg [1, 5] k (fun kq v1 v5 w' => ∃ (x1 x5 : Int) (l1 : List (List Int)), v1 = .int .i64 x1 ∧ v5 = .int .i64 x5 ∧ Aside0 (laws_markIntSS.l0 kq l1 x1 x5 = some (r1, r2)) ∧ Aside0 (kq ≤ k) ∧ Aside0 (l1.length = l0.length) ∧ Aside0 (Kd.S (Kd.slice 3 (Kd.int .i64)) 38 w' w0.heap.size P0_ (.slice A l0.length c) l1) ∧ Aside0 (Below w0.heap.size w0 w') ∧ Aside0 (Kept w w' P0_))
  case atStart => exact ⟨a1, 0, l0, rfl, rfl, H', ⟨Nat.le_refl _⟩, ⟨rfl⟩, HO, HB, HK⟩
  case round =>
    clear H' HO HB HK
    obtain ⟨x1, x5, l1, rfl, rfl, HA, HK1, HL, HO, HB, HK⟩ := hrel
    cases gk with
    | zero => exact absurd HA.out (by simp [laws_markIntSS.l0])
    | succ k1 =>
      have H := HA.out
      clear HA
      rw [laws_markIntSS.l0, HL.out] at H
      by_cases c3 : x5 < (l0.length : Int)
      · rw [if_pos c3] at H
        by_cases c4 : 0 ≤ x5
        · rw [if_pos c4] at H
          obtain ⟨⟨t1, t2⟩, A5, H⟩ := Option.bind_eq_some_iff.mp H
          have A5 := Aside0.mk A5
          have H := Aside0.mk H
          have hp : 0 < l1.length := by have := HL.out; omega
          obtain ⟨g, cap, hsl, hbg, _, _⟩ := Kd.S_form HO.out hp
          rw [HL.out] at hsl
          injection hsl with e1 e2 e3
          subst e1
          subst e3
          obtain ⟨oki, cs, hcl, hM, hcell, hoki, hH⟩ := Kd.S_lend HO.out ([] : List Int) x5 c4 c3
          obtain ⟨u, rfl, hR⟩ := hM
          obtain ⟨Ai, ci, rfl⟩ := Kd.R_slice hR
          have hcu := hcell 0 _ rfl
          have e : ((⟨g, 0, none⟩ : Addr).add x5.toNat) = ⟨g, x5.toNat * 1 + 0, none⟩ := by
            unfold Addr.add
            by_cases hz : x5.toNat = 0
            · rw [if_pos hz, hz]
            · rw [if_neg hz, Nat.mul_one, Nat.zero_add]; rfl
          have hcu : wr.cell? ((⟨g, 0, none⟩ : Addr).add x5.toNat) = some (.slice Ai (l1.getD x5.toNat []).length ci) := by rw [e]; exact hcu
          have hcv : wr.cell? ⟨g, x5.toNat, none⟩ = some (.slice Ai (l1.getD x5.toNat []).length ci) := by
            have h1 := hcell 0 _ rfl
            rw [show x5.toNat * (Kd.slice 3 (Kd.int .i64)).sz + 0 = x5.toNat from by rw [Nat.add_zero]; exact Nat.mul_one _] at h1
            exact h1
          clear e hcell hcl
          have HH := Aside0.mk hH
          have HR := Aside0.mk hR
          have HI := Aside0.mk hoki
          clear hH hR hoki hbg hp HO
          have p1 : (0 ≤ x5) = True := eq_true c4
          have q1 : (x5 < (l0.length : Int)) = True := eq_true c3
          go_wp2_with ((with_reducible refine gate_callee (f := 24) rfl ?_); refine goesL_ (some 17) rfl rfl Tryd.func24 (by kernel_rfl) rfl #[.slice Ai (l1.getD x5.toNat []).length ci, .int .i64 x1] rfl (by (try simp only [List.map_toArray, List.map_cons, List.map_nil]); first | done | rfl) ?_; (with_reducible refine (laws_markIntS.calls k1 oki (.slice Ai (l1.getD x5.toNat []).length ci) (l1.getD x5.toNat []) x1 t1 t2 w0 _ HB.out HR.out A5.out).mono ?_); rintro e w2 ⟨rfl, hy0, hb, hkp⟩; refine ⟨_, rfl, ?_⟩; have HB2 := Aside0.mk hb; have hy1 := Kd.R_mono (Kd.R_tight rfl hy0) (fun k_ hk_ => HR.out.1 k_ hk_.symm); have HK2 := Aside0.mk (HK.out.then_ hkp (fun k_ hk_ => .inl (HI.out k_ hk_).1)); have HO2 := Aside0.mk (Kd.H_back (Kd.H_kept HH.out hkp (fun k_ _ hn_ => hn_)) (⟨_, rfl, hy1⟩ : (Kd.slice 3 (Kd.int .i64)).M w2 w0.heap.size oki t2 [.slice Ai (l1.getD x5.toNat []).length ci]) (fun _ h_ => h_)); clear hb hy0 hy1 hkp HB HK HH HR)
          go_roundg k1
          case measure => have := HK1.out; omega
          case rel => exact ⟨t1, wrap64 (x5 + 1), l1.set x5.toNat t2, rfl, rfl, H, ⟨by have := HK1.out; omega⟩, ⟨by rw [List.length_set]; exact HL.out⟩, HO2, HB2, HK2⟩
        · rw [if_neg c4] at H
          cases H
      · rw [if_neg c3] at H
        have c3b0 : decide (x5 < (l0.length : Int)) = false := decide_eq_false c3
        clear c3
        obtain ⟨rfl, rfl⟩ := Prod.mk.inj (Option.some.inj H)
        go_wp2
        go_ret
        exact ⟨rfl, HO.out, HB.out, HK.out⟩
/-- Two rows of rows that lie apart: the blocks of the first are below N, those of the second are not. -/
def Apt (base : Nat) (W : World) (v u : Value) (xs ys : List (List Int)) : Prop := ∃ N, Kd.S (Kd.slice 3 (Kd.int .i64)) 38 W base (fun k => k < N) v xs ∧ Kd.S (Kd.slice 3 (Kd.int .i64)) 38 W base (fun k => N ≤ k) u ys
theorem Apt.make {base : Nat} {W w1 : World} {ok ok2 : Nat → Prop} {v u : Value} {xs ys : List (List Int)} (h1 : Kd.S (Kd.slice 3 (Kd.int .i64)) 38 W base ok v xs) (h2 : Kd.S (Kd.slice 3 (Kd.int .i64)) 38 w1 W.heap.size ok2 u ys) (hb : Below W.heap.size W w1) (hle : base ≤ W.heap.size) : Apt base w1 v u xs ys :=
  ⟨W.heap.size, Kd.S_mono (Kd.S_old h1 hb) (fun _ hk => hk.2), Kd.S_lower (Kd.S_mono (Kd.S_bound h2) (fun _ hk => hk.2.1)) hle⟩
theorem Apt.below {base : Nat} {W w1 : World} {v u : Value} {xs ys : List (List Int)} (h : Apt base W v u xs ys) (hb : Below W.heap.size W w1) : Apt base w1 v u xs ys := by
  obtain ⟨N, h1, h2⟩ := h
  exact ⟨N, Kd.S_below h1 hb, Kd.S_below h2 hb⟩
theorem Apt.drew {base : Nat} {W : World} {v u : Value} {xs ys : List (List Int)} (h : Apt base W v u xs ys) : Apt base W.drew v u xs ys := by
  obtain ⟨N, h1, h2⟩ := h
  exact ⟨N, Kd.S_drew h1, Kd.S_drew h2⟩
theorem Apt.drewN {base : Nat} {W : World} {v u : Value} {xs ys : List (List Int)} (h : Apt base W v u xs ys) (m : Nat) : Apt base (W.drewN m) v u xs ys := by
  obtain ⟨N, h1, h2⟩ := h
  exact ⟨N, Kd.S_drewN h1 m, Kd.S_drewN h2 m⟩
theorem Apt.alloc {base : Nat} {W : World} {v u : Value} {xs ys : List (List Int)} (h : Apt base W v u xs ys) (o : Obj) : Apt base (W.alloc o) v u xs ys := by
  obtain ⟨N, h1, h2⟩ := h
  exact ⟨N, Kd.S_alloc h1 o, Kd.S_alloc h2 o⟩
/-- A row of texts has been written. -/
theorem Apt.kept {base : Nat} {W w1 : World} {v u z : Value} {xs ys : List (List Int)} (h : Apt base W v u xs ys) (hty : ∀ k, z.ownBlock = some k → ∃ cells, W.heap[k]? = some (.cells cells 9 (0, 0))) (hk : Kept W w1 (fun k => some k = z.ownBlock)) : Apt base w1 v u xs ys := by
  obtain ⟨N, h1, h2⟩ := h
  exact ⟨N, Kd.S_mono (Kd.S_kept (Kd.S_apart' h1 hty (by decide)) hk (fun _ h_ => h_.2)) (fun _ h_ => h_.1), Kd.S_mono (Kd.S_kept (Kd.S_apart' h2 hty (by decide)) hk (fun _ h_ => h_.2)) (fun _ h_ => h_.1)⟩
/-- A block of a row of rows of whole numbers. -/
def PT (W : World) (k : Nat) : Prop := ∃ q, q ∈ [38, 3] ∧ ∃ cells, W.heap[k]? = some (.cells cells q (0, 0))
theorem PT.not {W : World} {k t : Nat} {cells : Array Value} (hb : W.heap[k]? = some (.cells cells t (0, 0))) (ht : ∀ q, q ∈ [38, 3] → q ≠ t) : ¬ PT W k := by
  rintro ⟨q, hq, c2, hc⟩
  rw [hc] at hb
  injection hb with hb
  injection hb with _ hb
  exact ht q hq hb
theorem PT.blk {W w1 : World} {g t : Nat} {cells : Array Value} (hb : W.heap[g]? = some (.cells cells t (0, 0))) (hk : Kept W w1 (PT W)) (ht : ∀ q, q ∈ [38, 3] → q ≠ t) : w1.heap[g]? = some (.cells cells t (0, 0)) := blk_kept hb hk (PT.not hb ht)
theorem PT.row {α : Type} {d : Kd α} {e : Nat} {W w1 : World} {base : Nat} {ok : Nat → Prop} {v : Value} {xs : List α} (h : d.R e W base ok v xs) (hk : Kept W w1 (PT W)) (ht : ∀ t, t ∈ e :: d.E → ∀ q, q ∈ [38, 3] → q ≠ t) : d.R e w1 base ok v xs :=
  Kd.R_mono (Kd.R_kept (Kd.R_bound h) hk (fun k hk' => by
    obtain ⟨_, _, _, t, hq, cells, hc⟩ := hk'
    exact PT.not hc (ht t hq))) (fun _ h_ => h_.1)
/-- The second of two rows of rows that lie apart is marked. -/
theorem Apt.mark (k : Nat) (v u : Value) (xs ys : List (List Int)) (a1 r1 : Int) (ys2 : List (List Int)) (w0 W : World) (hB : Below w0.heap.size w0 W) (hx : Apt w0.heap.size W v u xs ys) (h : laws_markIntSS.f k ys a1 = some (r1, ys2)) :
    Calls Tryd.prog 11 #[u, .int .i64 a1] W fun e w' => e = .returned (.int .i64 r1) ∧ Kd.S (Kd.slice 3 (Kd.int .i64)) 38 w' w0.heap.size (fun k_ => some k_ ≠ u.ownBlock) v xs ∧ Kd.S (Kd.slice 3 (Kd.int .i64)) 38 w' w0.heap.size (fun k_ => some k_ ≠ v.ownBlock) u ys2 ∧ Below w0.heap.size w0 w' ∧ Kept W w' (PT W) := by
  obtain ⟨N, h1, h2⟩ := hx
  refine (laws_markIntSS.calls k _ u ys a1 r1 ys2 w0 W hB (Kd.S_bound h2) h).mono ?_
  rintro e w' ⟨rfl, hs, hb, hk⟩
  refine ⟨rfl, Kd.S_mono (Kd.S_kept h1 hk (fun k hk' hq => by have := hq.1; omega)) (fun k hk' e => by
    have := (h2.choose_spec.1 k e.symm); omega), Kd.S_mono hs (fun k hk' e => by
    have := (h1.choose_spec.1 k e.symm); have := hk'.1; omega), hb, hk.mono (fun k hk' => hk'.2.2.2)⟩
theorem laws_heldIntSS.callsN (k : Nat) (A0 : Option Addr) (c0 n : Nat) (l0 : List (List Int)) (a1 : Int) (r : Int) (w : World) (hn : n = l0.length) (hr0 : Kd.C (Kd.slice 3 (Kd.int .i64)) w A0 l0.length l0) (hc0 : n ≤ c0) (h : laws_heldIntSS.f k l0 a1 = some r) :
    Calls Tryd.prog 12 #[.slice A0 n c0, .int .i64 a1] w fun e w' => e = .returned (.int .i64 r) ∧ Drawn0 w w' := by
  subst hn
  exact laws_heldIntSS.calls k A0 c0 l0 a1 r w hr0 hc0 h

/-! ### laws_FnExactCyclesOfLamps: function 3 -/
def laws_FnExactCyclesOfLamps.f (k : Nat) (l0_0 : List ByteArray) : Option (Bool) := (laws_szLamps.f k l0_0 1048576).bind fun t191 => (if t191 < 0 then (some true) else ((laws_toLamps.f k l0_0).bind fun t192 => ((spec_CyclesOfLamps.f k t192).bind fun bt195 => ((laws_toLamps.f k l0_0).bind fun t199 => ((impl_CyclesOfLamps.f t199).bind fun bt203 => ((laws_eqIntSS.f k bt203.1 bt195.1).bind fun t207 => (if t207 = true then (if (bt203.2 != bt195.2) = true then (none) else ((laws_toLamps.f k l0_0).bind fun t208 => ((laws_eqLamps.f k t199 t208).bind fun t211 => (if t211 = true then ((laws_markLamps.f k t199 1).bind fun bt212 => (if bt212.1 < 0 then (none) else ((laws_eqIntSS.f k bt203.1 bt195.1).bind fun t214 => (if t214 = true then ((laws_markIntSS.f k bt203.1 1).bind fun bt215 => ((laws_heldIntSS.f k bt215.2 1).bind fun t216 => (if t216 < 0 then (none) else (if t216 = bt215.1 then ((laws_toLamps.f k l0_0).bind fun t217 => ((impl_CyclesOfLamps.f t217).bind fun bt220 => ((laws_eqIntSS.f k bt220.1 bt195.1).bind fun t224 => (if t224 = true then (if (bt220.2 != bt195.2) = true then (none) else ((laws_heldIntSS.f k bt215.2 1).bind fun t225 => (if t225 < 0 then (none) else (if t225 = bt215.1 then (some true) else (none))))) else (none))))) else (none))))) else (none))))) else (none))))) else (none))))))))
theorem laws_FnExactCyclesOfLamps.mono : ∀ a0 k, LeO (laws_FnExactCyclesOfLamps.f k a0) (laws_FnExactCyclesOfLamps.f (k + 1) a0) := by
 intro a0 k
 unfold laws_FnExactCyclesOfLamps.f
 repeat' first
   | (with_reducible exact laws_eqIntSS.mono _ _ _)
   | (with_reducible exact laws_eqLamps.mono _ _ _)
   | (with_reducible exact laws_heldIntSS.mono _ _ _)
   | (with_reducible exact laws_markIntSS.mono _ _ _)
   | (with_reducible exact laws_markLamps.mono _ _ _)
   | (with_reducible exact laws_szLamps.mono _ _ _)
   | (with_reducible exact laws_toLamps.mono _ _)
   | (with_reducible exact spec_CyclesOfLamps.mono _ _)
   | (with_reducible exact LeO.refl _)
   | (with_reducible exact LeO.none _)
   | (with_reducible refine LeO.ite ?_ ?_)
   | (with_reducible refine LeO.bind ?_ (fun _ => ?_))
   | exact laws_eqIntSS.mono _ _ _
   | exact laws_eqLamps.mono _ _ _
   | exact laws_heldIntSS.mono _ _ _
   | exact laws_markIntSS.mono _ _ _
   | exact laws_markLamps.mono _ _ _
   | exact laws_szLamps.mono _ _ _
   | exact laws_toLamps.mono _ _
   | exact spec_CyclesOfLamps.mono _ _
   | exact LeO.none _
   | refine LeO.ite ?_ ?_
   | refine LeO.bind ?_ (fun _ => ?_)
set_option maxHeartbeats 8000000 in
set_option maxRecDepth 100000 in
theorem laws_FnExactCyclesOfLamps.calls (k : Nat) (A0_0 : Option Addr) (c0_0 : Nat) (l0_0 : List ByteArray) (r : Bool) (w : World) (hr0_0 : Kd.C Kd.string w A0_0 l0_0.length l0_0) (hc0_0 : l0_0.length ≤ c0_0) (h : laws_FnExactCyclesOfLamps.f k l0_0 = some r) :
  Calls Tryd.prog 3 #[.agg #[.slice A0_0 l0_0.length c0_0]] w fun e w' => e = .returned (.bool r) ∧ Below w.heap.size w w' := by
 have hu24 := Tryd.underlying24
 have hu29 := Tryd.underlying29
 have HR0_0 := Aside0.mk hr0_0
 have HC0_0 := Aside0.mk hc0_0
 clear hr0_0 hc0_0
 have HB := Aside0.mk (Below.refl w.heap.size w)
 have H : ((laws_szLamps.f k l0_0 1048576).bind fun t191 => (if t191 < 0 then (some true) else ((laws_toLamps.f k l0_0).bind fun t192 => ((spec_CyclesOfLamps.f k t192).bind fun bt195 => ((laws_toLamps.f k l0_0).bind fun t199 => ((impl_CyclesOfLamps.f t199).bind fun bt203 => ((laws_eqIntSS.f k bt203.1 bt195.1).bind fun t207 => (if t207 = true then (if (bt203.2 != bt195.2) = true then (none) else ((laws_toLamps.f k l0_0).bind fun t208 => ((laws_eqLamps.f k t199 t208).bind fun t211 => (if t211 = true then ((laws_markLamps.f k t199 1).bind fun bt212 => (if bt212.1 < 0 then (none) else ((laws_eqIntSS.f k bt203.1 bt195.1).bind fun t214 => (if t214 = true then ((laws_markIntSS.f k bt203.1 1).bind fun bt215 => ((laws_heldIntSS.f k bt215.2 1).bind fun t216 => (if t216 < 0 then (none) else (if t216 = bt215.1 then ((laws_toLamps.f k l0_0).bind fun t217 => ((impl_CyclesOfLamps.f t217).bind fun bt220 => ((laws_eqIntSS.f k bt220.1 bt195.1).bind fun t224 => (if t224 = true then (if (bt220.2 != bt195.2) = true then (none) else ((laws_heldIntSS.f k bt215.2 1).bind fun t225 => (if t225 < 0 then (none) else (if t225 = bt215.1 then (some true) else (none))))) else (none))))) else (none))))) else (none))))) else (none))))) else (none))))))))) = some r := h
 clear h
 replace H := Option.bind_eq_some_iff.mp H
 obtain ⟨t191, A20, H⟩ := H
 replace H : (if t191 < 0 then (some true) else ((laws_toLamps.f k l0_0).bind fun t192 => ((spec_CyclesOfLamps.f k t192).bind fun bt195 => ((laws_toLamps.f k l0_0).bind fun t199 => ((impl_CyclesOfLamps.f t199).bind fun bt203 => ((laws_eqIntSS.f k bt203.1 bt195.1).bind fun t207 => (if t207 = true then (if (bt203.2 != bt195.2) = true then (none) else ((laws_toLamps.f k l0_0).bind fun t208 => ((laws_eqLamps.f k t199 t208).bind fun t211 => (if t211 = true then ((laws_markLamps.f k t199 1).bind fun bt212 => (if bt212.1 < 0 then (none) else ((laws_eqIntSS.f k bt203.1 bt195.1).bind fun t214 => (if t214 = true then ((laws_markIntSS.f k bt203.1 1).bind fun bt215 => ((laws_heldIntSS.f k bt215.2 1).bind fun t216 => (if t216 < 0 then (none) else (if t216 = bt215.1 then ((laws_toLamps.f k l0_0).bind fun t217 => ((impl_CyclesOfLamps.f t217).bind fun bt220 => ((laws_eqIntSS.f k bt220.1 bt195.1).bind fun t224 => (if t224 = true then (if (bt220.2 != bt195.2) = true then (none) else ((laws_heldIntSS.f k bt215.2 1).bind fun t225 => (if t225 < 0 then (none) else (if t225 = bt215.1 then (some true) else (none))))) else (none))))) else (none))))) else (none))))) else (none))))) else (none)))))))) = some r := H
 have A2 := Aside0.mk A20
 clear A20
 by_cases c3 : t191 < 0
 ·rw [if_pos c3] at H
  have c3b0 : decide (t191 < 0) = true := decide_eq_true c3
  clear c3
  obtain rfl := Option.some.inj H
  go_enter Tryd.func3, Tryd.ntmps3
  go_wp2_with (first | ((with_reducible refine gate_dst (N := 1) rfl ?_); refine box_event ?hg (N := 1) ?hd (cs := #[.slice A0_0 l0_0.length c0_0]) (t := 24) ?hr ?_; (case hd => rfl); (case hg => rfl); (case hr => first | (go_simp; done) | (go_simp; rfl)); intro gb190 hg w4 hbox hb; have n0_ := Aside0.mk (below_step (by repeat (first | (with_reducible first | exact HB.out | apply below_alloc | apply pw_below_drewN | apply below_drew1) | exact HB.out)) hb); have n1_ := Aside0.mk (hbox); have n2_ := Aside0.mk ((by rw [hg]; exact (below_size (by repeat (first | (with_reducible first | exact HB.out | apply below_alloc | apply pw_below_drewN | apply below_drew1) | exact HB.out))) : w.heap.size ≤ gb190)); have n3_ := Aside0.mk ((by rw [hg]; exact (below_size (by repeat (first | (with_reducible first | exact HB.out | apply below_alloc | apply pw_below_drewN | apply below_drew1) | exact HB.out))) : w.heap.size ≤ gb190)); clear HB; have HB := n0_; have BK190 := n1_; have GW190 := n2_; have GE190 := n3_; clear n0_ n1_ n2_ n3_; clear hb hbox hg; have hcz5_0 : w4.cell? ⟨gb190, 0, none⟩ = some (.slice A0_0 l0_0.length c0_0) := (blk_cell BK190.out 0).trans rfl; have hfz5_0 := blk_frozen BK190.out 0) | ((with_reducible refine gate_callee (f := 4) rfl ?_); refine goesL_ (some 16) rfl rfl Tryd.func4 (by kernel_rfl) rfl #[.agg #[.slice A0_0 l0_0.length c0_0], .int .i64 1048576] rfl (by (try simp only [List.map_toArray, List.map_cons, List.map_nil]); first | done | rfl | (simp only [List.length_drop, List.length_take]; rfl)) ?_; (with_reducible refine (laws_szLamps.calls k _ _ l0_0 1048576 t191 _ ?side1 ?side2 A2.out).mono ?_); (case side1 => repeat (first | exact (Kd.C_below HR0_0.out HB.out) | (with_reducible refine Kd.C_alloc ?_ _) | (with_reducible refine Kd.C_drewN ?_ _) | (with_reducible refine Kd.C_drew ?_))); (case side2 => exact HC0_0.out); rintro e w6 ⟨rfl, hb⟩; refine ⟨_, rfl, ?_⟩; have n0_ := Aside0.mk (blk_below (g := gb190) (o := .cells #[.slice A0_0 l0_0.length c0_0] 24 (0, 0)) (by (with_reducible repeat (first | refine blk_drewN ?_ _ | refine blk_drew ?_ | refine blk_alloc ?_ _)); exact BK190.out) hb); have n1_ := Aside0.mk (below_step (by repeat (first | (with_reducible first | exact HB.out | apply below_alloc | apply pw_below_drewN | apply below_drew1 | refine below_set ?_ GE190.out) | exact HB.out)) hb); clear BK190; clear HB; have BK190 := n0_; have HB := n1_; clear n0_ n1_; (try clear hb); (try clear hb2); (try clear hk); (try clear hi)))
  go_ret
  exact ⟨by first | rfl | (simp [errW_none, errW_some] <;> rfl) | (simp [*, errW_none, errW_some] <;> rfl), by repeat (first | (with_reducible first | exact HB.out | apply below_alloc | apply pw_below_drewN | apply below_drew1 | refine below_set ?_ GE190.out) | exact HB.out)⟩
 ·rw [if_neg c3] at H
  have c3b0 : decide (t191 < 0) = false := decide_eq_false c3
  clear c3
  replace H := Option.bind_eq_some_iff.mp H
  obtain ⟨t192, A70, H⟩ := H
  replace H : ((spec_CyclesOfLamps.f k t192).bind fun bt195 => ((laws_toLamps.f k l0_0).bind fun t199 => ((impl_CyclesOfLamps.f t199).bind fun bt203 => ((laws_eqIntSS.f k bt203.1 bt195.1).bind fun t207 => (if t207 = true then (if (bt203.2 != bt195.2) = true then (none) else ((laws_toLamps.f k l0_0).bind fun t208 => ((laws_eqLamps.f k t199 t208).bind fun t211 => (if t211 = true then ((laws_markLamps.f k t199 1).bind fun bt212 => (if bt212.1 < 0 then (none) else ((laws_eqIntSS.f k bt203.1 bt195.1).bind fun t214 => (if t214 = true then ((laws_markIntSS.f k bt203.1 1).bind fun bt215 => ((laws_heldIntSS.f k bt215.2 1).bind fun t216 => (if t216 < 0 then (none) else (if t216 = bt215.1 then ((laws_toLamps.f k l0_0).bind fun t217 => ((impl_CyclesOfLamps.f t217).bind fun bt220 => ((laws_eqIntSS.f k bt220.1 bt195.1).bind fun t224 => (if t224 = true then (if (bt220.2 != bt195.2) = true then (none) else ((laws_heldIntSS.f k bt215.2 1).bind fun t225 => (if t225 < 0 then (none) else (if t225 = bt215.1 then (some true) else (none))))) else (none))))) else (none))))) else (none))))) else (none))))) else (none)))))) = some r := H
  have A7 := Aside0.mk A70
  clear A70
  replace H := Option.bind_eq_some_iff.mp H
  obtain ⟨⟨t195, t198⟩, A80, H⟩ := H
  replace H : ((laws_toLamps.f k l0_0).bind fun t199 => ((impl_CyclesOfLamps.f t199).bind fun bt203 => ((laws_eqIntSS.f k bt203.1 t195).bind fun t207 => (if t207 = true then (if (bt203.2 != t198) = true then (none) else ((laws_toLamps.f k l0_0).bind fun t208 => ((laws_eqLamps.f k t199 t208).bind fun t211 => (if t211 = true then ((laws_markLamps.f k t199 1).bind fun bt212 => (if bt212.1 < 0 then (none) else ((laws_eqIntSS.f k bt203.1 t195).bind fun t214 => (if t214 = true then ((laws_markIntSS.f k bt203.1 1).bind fun bt215 => ((laws_heldIntSS.f k bt215.2 1).bind fun t216 => (if t216 < 0 then (none) else (if t216 = bt215.1 then ((laws_toLamps.f k l0_0).bind fun t217 => ((impl_CyclesOfLamps.f t217).bind fun bt220 => ((laws_eqIntSS.f k bt220.1 t195).bind fun t224 => (if t224 = true then (if (bt220.2 != t198) = true then (none) else ((laws_heldIntSS.f k bt215.2 1).bind fun t225 => (if t225 < 0 then (none) else (if t225 = bt215.1 then (some true) else (none))))) else (none))))) else (none))))) else (none))))) else (none))))) else (none))))) = some r := H
  have A8 := Aside0.mk A80
  clear A80
  replace H := Option.bind_eq_some_iff.mp H
  obtain ⟨t199, A90, H⟩ := H
  replace H : ((impl_CyclesOfLamps.f t199).bind fun bt203 => ((laws_eqIntSS.f k bt203.1 t195).bind fun t207 => (if t207 = true then (if (bt203.2 != t198) = true then (none) else ((laws_toLamps.f k l0_0).bind fun t208 => ((laws_eqLamps.f k t199 t208).bind fun t211 => (if t211 = true then ((laws_markLamps.f k t199 1).bind fun bt212 => (if bt212.1 < 0 then (none) else ((laws_eqIntSS.f k bt203.1 t195).bind fun t214 => (if t214 = true then ((laws_markIntSS.f k bt203.1 1).bind fun bt215 => ((laws_heldIntSS.f k bt215.2 1).bind fun t216 => (if t216 < 0 then (none) else (if t216 = bt215.1 then ((laws_toLamps.f k l0_0).bind fun t217 => ((impl_CyclesOfLamps.f t217).bind fun bt220 => ((laws_eqIntSS.f k bt220.1 t195).bind fun t224 => (if t224 = true then (if (bt220.2 != t198) = true then (none) else ((laws_heldIntSS.f k bt215.2 1).bind fun t225 => (if t225 < 0 then (none) else (if t225 = bt215.1 then (some true) else (none))))) else (none))))) else (none))))) else (none))))) else (none))))) else (none)))) = some r := H
  have A9 := Aside0.mk A90
  clear A90
  replace H := Option.bind_eq_some_iff.mp H
  obtain ⟨⟨t203, t206⟩, A100, H⟩ := H
  replace H : ((laws_eqIntSS.f k t203 t195).bind fun t207 => (if t207 = true then (if (t206 != t198) = true then (none) else ((laws_toLamps.f k l0_0).bind fun t208 => ((laws_eqLamps.f k t199 t208).bind fun t211 => (if t211 = true then ((laws_markLamps.f k t199 1).bind fun bt212 => (if bt212.1 < 0 then (none) else ((laws_eqIntSS.f k t203 t195).bind fun t214 => (if t214 = true then ((laws_markIntSS.f k t203 1).bind fun bt215 => ((laws_heldIntSS.f k bt215.2 1).bind fun t216 => (if t216 < 0 then (none) else (if t216 = bt215.1 then ((laws_toLamps.f k l0_0).bind fun t217 => ((impl_CyclesOfLamps.f t217).bind fun bt220 => ((laws_eqIntSS.f k bt220.1 t195).bind fun t224 => (if t224 = true then (if (bt220.2 != t198) = true then (none) else ((laws_heldIntSS.f k bt215.2 1).bind fun t225 => (if t225 < 0 then (none) else (if t225 = bt215.1 then (some true) else (none))))) else (none))))) else (none))))) else (none))))) else (none))))) else (none))) = some r := H
  have A10 := Aside0.mk A100
  clear A100
  replace H := Option.bind_eq_some_iff.mp H
  obtain ⟨t207, A110, H⟩ := H
  replace H : (if t207 = true then (if (t206 != t198) = true then (none) else ((laws_toLamps.f k l0_0).bind fun t208 => ((laws_eqLamps.f k t199 t208).bind fun t211 => (if t211 = true then ((laws_markLamps.f k t199 1).bind fun bt212 => (if bt212.1 < 0 then (none) else ((laws_eqIntSS.f k t203 t195).bind fun t214 => (if t214 = true then ((laws_markIntSS.f k t203 1).bind fun bt215 => ((laws_heldIntSS.f k bt215.2 1).bind fun t216 => (if t216 < 0 then (none) else (if t216 = bt215.1 then ((laws_toLamps.f k l0_0).bind fun t217 => ((impl_CyclesOfLamps.f t217).bind fun bt220 => ((laws_eqIntSS.f k bt220.1 t195).bind fun t224 => (if t224 = true then (if (bt220.2 != t198) = true then (none) else ((laws_heldIntSS.f k bt215.2 1).bind fun t225 => (if t225 < 0 then (none) else (if t225 = bt215.1 then (some true) else (none))))) else (none))))) else (none))))) else (none))))) else (none))))) else (none)) = some r := H
  have A11 := Aside0.mk A110
  clear A110
  by_cases c12 : t207 = true
  ·subst c12
   have H1 : (if (t206 != t198) = true then (none) else ((laws_toLamps.f k l0_0).bind fun t208 => ((laws_eqLamps.f k t199 t208).bind fun t211 => (if t211 = true then ((laws_markLamps.f k t199 1).bind fun bt212 => (if bt212.1 < 0 then (none) else ((laws_eqIntSS.f k t203 t195).bind fun t214 => (if t214 = true then ((laws_markIntSS.f k t203 1).bind fun bt215 => ((laws_heldIntSS.f k bt215.2 1).bind fun t216 => (if t216 < 0 then (none) else (if t216 = bt215.1 then ((laws_toLamps.f k l0_0).bind fun t217 => ((impl_CyclesOfLamps.f t217).bind fun bt220 => ((laws_eqIntSS.f k bt220.1 t195).bind fun t224 => (if t224 = true then (if (bt220.2 != t198) = true then (none) else ((laws_heldIntSS.f k bt215.2 1).bind fun t225 => (if t225 < 0 then (none) else (if t225 = bt215.1 then (some true) else (none))))) else (none))))) else (none))))) else (none))))) else (none))))) = some r := by rw [if_pos rfl] at H; exact H
   clear H
   have H := H1
   clear H1
   by_cases c13 : (t206 != t198) = true
   ·rw [if_pos c13] at H
    exact absurd H (by simp)
   ·rw [if_neg c13] at H
    have c13b0 : (t206 != t198) = false := by simpa using c13
    (try (have c13b1 : decide (t206 = t198) = true := by simpa using c13))
    (try (have c13b2 : (t206 == t198) = true := by simpa using c13))
    clear c13
    replace H := Option.bind_eq_some_iff.mp H
    obtain ⟨t208, A140, H⟩ := H
    replace H : ((laws_eqLamps.f k t199 t208).bind fun t211 => (if t211 = true then ((laws_markLamps.f k t199 1).bind fun bt212 => (if bt212.1 < 0 then (none) else ((laws_eqIntSS.f k t203 t195).bind fun t214 => (if t214 = true then ((laws_markIntSS.f k t203 1).bind fun bt215 => ((laws_heldIntSS.f k bt215.2 1).bind fun t216 => (if t216 < 0 then (none) else (if t216 = bt215.1 then ((laws_toLamps.f k l0_0).bind fun t217 => ((impl_CyclesOfLamps.f t217).bind fun bt220 => ((laws_eqIntSS.f k bt220.1 t195).bind fun t224 => (if t224 = true then (if (bt220.2 != t198) = true then (none) else ((laws_heldIntSS.f k bt215.2 1).bind fun t225 => (if t225 < 0 then (none) else (if t225 = bt215.1 then (some true) else (none))))) else (none))))) else (none))))) else (none))))) else (none))) = some r := H
    have A14 := Aside0.mk A140
    clear A140
    replace H := Option.bind_eq_some_iff.mp H
    obtain ⟨t211, A150, H⟩ := H
    replace H : (if t211 = true then ((laws_markLamps.f k t199 1).bind fun bt212 => (if bt212.1 < 0 then (none) else ((laws_eqIntSS.f k t203 t195).bind fun t214 => (if t214 = true then ((laws_markIntSS.f k t203 1).bind fun bt215 => ((laws_heldIntSS.f k bt215.2 1).bind fun t216 => (if t216 < 0 then (none) else (if t216 = bt215.1 then ((laws_toLamps.f k l0_0).bind fun t217 => ((impl_CyclesOfLamps.f t217).bind fun bt220 => ((laws_eqIntSS.f k bt220.1 t195).bind fun t224 => (if t224 = true then (if (bt220.2 != t198) = true then (none) else ((laws_heldIntSS.f k bt215.2 1).bind fun t225 => (if t225 < 0 then (none) else (if t225 = bt215.1 then (some true) else (none))))) else (none))))) else (none))))) else (none))))) else (none)) = some r := H
    have A15 := Aside0.mk A150
    clear A150
    by_cases c16 : t211 = true
    ·subst c16
     have H1 : ((laws_markLamps.f k t199 1).bind fun bt212 => (if bt212.1 < 0 then (none) else ((laws_eqIntSS.f k t203 t195).bind fun t214 => (if t214 = true then ((laws_markIntSS.f k t203 1).bind fun bt215 => ((laws_heldIntSS.f k bt215.2 1).bind fun t216 => (if t216 < 0 then (none) else (if t216 = bt215.1 then ((laws_toLamps.f k l0_0).bind fun t217 => ((impl_CyclesOfLamps.f t217).bind fun bt220 => ((laws_eqIntSS.f k bt220.1 t195).bind fun t224 => (if t224 = true then (if (bt220.2 != t198) = true then (none) else ((laws_heldIntSS.f k bt215.2 1).bind fun t225 => (if t225 < 0 then (none) else (if t225 = bt215.1 then (some true) else (none))))) else (none))))) else (none))))) else (none))))) = some r := by rw [if_pos rfl] at H; exact H
     clear H
     have H := H1
     clear H1
     replace H := Option.bind_eq_some_iff.mp H
     obtain ⟨⟨t212, t213⟩, A170, H⟩ := H
     replace H : (if t212 < 0 then (none) else ((laws_eqIntSS.f k t203 t195).bind fun t214 => (if t214 = true then ((laws_markIntSS.f k t203 1).bind fun bt215 => ((laws_heldIntSS.f k bt215.2 1).bind fun t216 => (if t216 < 0 then (none) else (if t216 = bt215.1 then ((laws_toLamps.f k l0_0).bind fun t217 => ((impl_CyclesOfLamps.f t217).bind fun bt220 => ((laws_eqIntSS.f k bt220.1 t195).bind fun t224 => (if t224 = true then (if (bt220.2 != t198) = true then (none) else ((laws_heldIntSS.f k bt215.2 1).bind fun t225 => (if t225 < 0 then (none) else (if t225 = bt215.1 then (some true) else (none))))) else (none))))) else (none))))) else (none)))) = some r := H
     have A17 := Aside0.mk A170
     clear A170
     by_cases c18 : t212 < 0
     ·rw [if_pos c18] at H
      exact absurd H (by simp)
     ·rw [if_neg c18] at H
      have c18b0 : decide (t212 < 0) = false := decide_eq_false c18
      clear c18
      replace H := Option.bind_eq_some_iff.mp H
      obtain ⟨t214, A190, H⟩ := H
      replace H : (if t214 = true then ((laws_markIntSS.f k t203 1).bind fun bt215 => ((laws_heldIntSS.f k bt215.2 1).bind fun t216 => (if t216 < 0 then (none) else (if t216 = bt215.1 then ((laws_toLamps.f k l0_0).bind fun t217 => ((impl_CyclesOfLamps.f t217).bind fun bt220 => ((laws_eqIntSS.f k bt220.1 t195).bind fun t224 => (if t224 = true then (if (bt220.2 != t198) = true then (none) else ((laws_heldIntSS.f k bt215.2 1).bind fun t225 => (if t225 < 0 then (none) else (if t225 = bt215.1 then (some true) else (none))))) else (none))))) else (none))))) else (none)) = some r := H
      have A19 := Aside0.mk A190
      clear A190
      by_cases c20 : t214 = true
      ·subst c20
       have H1 : ((laws_markIntSS.f k t203 1).bind fun bt215 => ((laws_heldIntSS.f k bt215.2 1).bind fun t216 => (if t216 < 0 then (none) else (if t216 = bt215.1 then ((laws_toLamps.f k l0_0).bind fun t217 => ((impl_CyclesOfLamps.f t217).bind fun bt220 => ((laws_eqIntSS.f k bt220.1 t195).bind fun t224 => (if t224 = true then (if (bt220.2 != t198) = true then (none) else ((laws_heldIntSS.f k bt215.2 1).bind fun t225 => (if t225 < 0 then (none) else (if t225 = bt215.1 then (some true) else (none))))) else (none))))) else (none))))) = some r := by rw [if_pos rfl] at H; exact H
       clear H
       have H := H1
       clear H1
       replace H := Option.bind_eq_some_iff.mp H
       obtain ⟨⟨t215, t903⟩, A210, H⟩ := H
       replace H : ((laws_heldIntSS.f k t903 1).bind fun t216 => (if t216 < 0 then (none) else (if t216 = t215 then ((laws_toLamps.f k l0_0).bind fun t217 => ((impl_CyclesOfLamps.f t217).bind fun bt220 => ((laws_eqIntSS.f k bt220.1 t195).bind fun t224 => (if t224 = true then (if (bt220.2 != t198) = true then (none) else ((laws_heldIntSS.f k t903 1).bind fun t225 => (if t225 < 0 then (none) else (if t225 = t215 then (some true) else (none))))) else (none))))) else (none)))) = some r := H
       have A21 := Aside0.mk A210
       clear A210
       replace H := Option.bind_eq_some_iff.mp H
       obtain ⟨t216, A220, H⟩ := H
       replace H : (if t216 < 0 then (none) else (if t216 = t215 then ((laws_toLamps.f k l0_0).bind fun t217 => ((impl_CyclesOfLamps.f t217).bind fun bt220 => ((laws_eqIntSS.f k bt220.1 t195).bind fun t224 => (if t224 = true then (if (bt220.2 != t198) = true then (none) else ((laws_heldIntSS.f k t903 1).bind fun t225 => (if t225 < 0 then (none) else (if t225 = t215 then (some true) else (none))))) else (none))))) else (none))) = some r := H
       have A22 := Aside0.mk A220
       clear A220
       by_cases c23 : t216 < 0
       ·rw [if_pos c23] at H
        exact absurd H (by simp)
       ·rw [if_neg c23] at H
        have c23b0 : decide (t216 < 0) = false := decide_eq_false c23
        clear c23
        by_cases c24 : t216 = t215
        ·rw [if_pos c24] at H
         have c24b0 : (t216 == t215) = true := beq_iff_eq.mpr c24
         have c24b1 : (t216 != t215) = false := bne_eq_false_iff_eq.mpr c24
         clear c24
         replace H := Option.bind_eq_some_iff.mp H
         obtain ⟨t217, A250, H⟩ := H
         replace H : ((impl_CyclesOfLamps.f t217).bind fun bt220 => ((laws_eqIntSS.f k bt220.1 t195).bind fun t224 => (if t224 = true then (if (bt220.2 != t198) = true then (none) else ((laws_heldIntSS.f k t903 1).bind fun t225 => (if t225 < 0 then (none) else (if t225 = t215 then (some true) else (none))))) else (none)))) = some r := H
         have A25 := Aside0.mk A250
         clear A250
         replace H := Option.bind_eq_some_iff.mp H
         obtain ⟨⟨t220, t223⟩, A260, H⟩ := H
         replace H : ((laws_eqIntSS.f k t220 t195).bind fun t224 => (if t224 = true then (if (t223 != t198) = true then (none) else ((laws_heldIntSS.f k t903 1).bind fun t225 => (if t225 < 0 then (none) else (if t225 = t215 then (some true) else (none))))) else (none))) = some r := H
         have A26 := Aside0.mk A260
         clear A260
         replace H := Option.bind_eq_some_iff.mp H
         obtain ⟨t224, A270, H⟩ := H
         replace H : (if t224 = true then (if (t223 != t198) = true then (none) else ((laws_heldIntSS.f k t903 1).bind fun t225 => (if t225 < 0 then (none) else (if t225 = t215 then (some true) else (none))))) else (none)) = some r := H
         have A27 := Aside0.mk A270
         clear A270
         by_cases c28 : t224 = true
         ·subst c28
          have H1 : (if (t223 != t198) = true then (none) else ((laws_heldIntSS.f k t903 1).bind fun t225 => (if t225 < 0 then (none) else (if t225 = t215 then (some true) else (none))))) = some r := by rw [if_pos rfl] at H; exact H
          clear H
          have H := H1
          clear H1
          by_cases c29 : (t223 != t198) = true
          ·rw [if_pos c29] at H
           exact absurd H (by simp)
          ·rw [if_neg c29] at H
           have c29b0 : (t223 != t198) = false := by simpa using c29
           (try (have c29b1 : decide (t223 = t198) = true := by simpa using c29))
           (try (have c29b2 : (t223 == t198) = true := by simpa using c29))
           clear c29
           replace H := Option.bind_eq_some_iff.mp H
           obtain ⟨t225, A300, H⟩ := H
           replace H : (if t225 < 0 then (none) else (if t225 = t215 then (some true) else (none))) = some r := H
           have A30 := Aside0.mk A300
           clear A300
           by_cases c31 : t225 < 0
           ·rw [if_pos c31] at H
            exact absurd H (by simp)
           ·rw [if_neg c31] at H
            have c31b0 : decide (t225 < 0) = false := decide_eq_false c31
            clear c31
            by_cases c32 : t225 = t215
            ·rw [if_pos c32] at H
             have c32b0 : (t225 == t215) = true := beq_iff_eq.mpr c32
             have c32b1 : (t225 != t215) = false := bne_eq_false_iff_eq.mpr c32
             clear c32
             obtain rfl := Option.some.inj H
             go_enter Tryd.func3, Tryd.ntmps3
             try go_wp2_with (first | ((with_reducible refine gate_dst (N := 1) rfl ?_); refine box_event ?hg (N := 1) ?hd (cs := #[.slice A0_0 l0_0.length c0_0]) (t := 24) ?hr ?_; (case hd => rfl); (case hg => rfl); (case hr => first | (go_simp; done) | (go_simp; rfl)); intro gb190 hg w33 hbox hb; have n0_ := Aside0.mk (below_step (by repeat (first | (with_reducible first | exact HB.out | apply below_alloc | apply pw_below_drewN | apply below_drew1) | exact HB.out)) hb); have n1_ := Aside0.mk (hbox); have n2_ := Aside0.mk ((by rw [hg]; exact (below_size (by repeat (first | (with_reducible first | exact HB.out | apply below_alloc | apply pw_below_drewN | apply below_drew1) | exact HB.out))) : w.heap.size ≤ gb190)); have n3_ := Aside0.mk ((by rw [hg]; exact (below_size (by repeat (first | (with_reducible first | exact HB.out | apply below_alloc | apply pw_below_drewN | apply below_drew1) | exact HB.out))) : w.heap.size ≤ gb190)); clear HB; have HB := n0_; have BK190 := n1_; have GW190 := n2_; have GE190 := n3_; clear n0_ n1_ n2_ n3_; clear hb hbox hg; have hcz34_0 : w33.cell? ⟨gb190, 0, none⟩ = some (.slice A0_0 l0_0.length c0_0) := (blk_cell BK190.out 0).trans rfl; have hfz34_0 := blk_frozen BK190.out 0) | ((with_reducible refine gate_callee (f := 4) rfl ?_); refine goesL_ (some 16) rfl rfl Tryd.func4 (by kernel_rfl) rfl #[.agg #[.slice A0_0 l0_0.length c0_0], .int .i64 1048576] rfl (by (try simp only [List.map_toArray, List.map_cons, List.map_nil]); first | done | rfl | (simp only [List.length_drop, List.length_take]; rfl)) ?_; (with_reducible refine (laws_szLamps.calls k _ _ l0_0 1048576 t191 _ ?side1 ?side2 A2.out).mono ?_); (case side1 => repeat (first | exact (Kd.C_below HR0_0.out HB.out) | (with_reducible refine Kd.C_alloc ?_ _) | (with_reducible refine Kd.C_drewN ?_ _) | (with_reducible refine Kd.C_drew ?_))); (case side2 => exact HC0_0.out); rintro e w35 ⟨rfl, hb⟩; refine ⟨_, rfl, ?_⟩; have n0_ := Aside0.mk (blk_below (g := gb190) (o := .cells #[.slice A0_0 l0_0.length c0_0] 24 (0, 0)) (by (with_reducible repeat (first | refine blk_drewN ?_ _ | refine blk_drew ?_ | refine blk_alloc ?_ _)); exact BK190.out) hb); have n1_ := Aside0.mk (below_step (by repeat (first | (with_reducible first | exact HB.out | apply below_alloc | apply pw_below_drewN | apply below_drew1 | refine below_set ?_ GE190.out) | exact HB.out)) hb); clear BK190; clear HB; have BK190 := n0_; have HB := n1_; clear n0_ n1_; (try clear hb); (try clear hb2); (try clear hk); (try clear hi); have hcz36_0 : w35.cell? ⟨gb190, 0, none⟩ = some (.slice A0_0 l0_0.length c0_0) := (blk_cell BK190.out 0).trans rfl; have hfz36_0 := blk_frozen BK190.out 0) | ((with_reducible refine gate_callee (f := 6) rfl ?_); refine goesL_ (some 21) rfl rfl Tryd.func6 (by kernel_rfl) rfl #[.agg #[.slice A0_0 l0_0.length c0_0]] rfl (by (try simp only [List.map_toArray, List.map_cons, List.map_nil]); first | done | rfl | (simp only [List.length_drop, List.length_take]; rfl)) ?_; (with_reducible refine (laws_toLamps.calls k _ _ l0_0 t192 _ ?side1 ?side2 A7.out).mono ?_); (case side1 => repeat (first | exact (Kd.C_below HR0_0.out HB.out) | (with_reducible refine Kd.C_alloc ?_ _) | (with_reducible refine Kd.C_drewN ?_ _) | (with_reducible refine Kd.C_drew ?_))); (case side2 => exact HC0_0.out); rintro e w37 ⟨v193, rfl, ho0, hb⟩; refine ⟨_, rfl, ?_⟩; have n0_ := Aside0.mk (Kd.R_lower ho0 (below_size (by repeat (first | (with_reducible first | exact HB.out | apply below_alloc | apply pw_below_drewN | apply below_drew1 | refine below_set ?_ GE190.out) | exact HB.out)))); have n1_ := Aside0.mk (blk_below (g := gb190) (o := .cells #[.slice A0_0 l0_0.length c0_0] 24 (0, 0)) (by (with_reducible repeat (first | refine blk_drewN ?_ _ | refine blk_drew ?_ | refine blk_alloc ?_ _)); exact BK190.out) hb); have n2_ := Aside0.mk (below_step (by repeat (first | (with_reducible first | exact HB.out | apply below_alloc | apply pw_below_drewN | apply below_drew1 | refine below_set ?_ GE190.out) | exact HB.out)) hb); clear BK190; clear HB; have HO194 := n0_; have BK190 := n1_; have HB := n2_; clear n0_ n1_ n2_; (try clear hb); (try clear hb2); (try clear hk); (try clear hi); (try clear ho0); obtain ⟨Ao38, co38, eo38⟩ := Kd.R_slice HO194.out; subst eo38) | ((with_reducible refine gate_callee (f := 5) rfl ?_); refine goesL_ (some 22) rfl rfl Tryd.func5 (by kernel_rfl) rfl #[.agg #[.slice Ao38 t192.length co38]] rfl (by (try simp only [List.map_toArray, List.map_cons, List.map_nil]); first | done | rfl | (simp only [List.length_drop, List.length_take]; rfl)) ?_; (with_reducible refine (spec_CyclesOfLamps.calls k _ _ t192 t195 t198 _ ?side1 ?side2 A8.out).mono ?_); (case side1 => repeat (first | exact (Kd.R_reads' HO194.out).2.2 | (with_reducible refine Kd.C_alloc ?_ _) | (with_reducible refine Kd.C_drewN ?_ _) | (with_reducible refine Kd.C_drew ?_))); (case side2 => exact (Kd.R_reads' HO194.out).2.1); rintro e w39 ⟨v196, rfl, ho0, hb⟩; refine ⟨_, rfl, ?_⟩; have n0_ := Aside0.mk (Kd.R_below (by (with_reducible repeat (first | apply Kd.R_alloc | apply Kd.R_drewN | apply Kd.R_drew)); exact HO194.out) hb); have n1_ := Aside0.mk (Kd.S_lower ho0 (below_size (by repeat (first | (with_reducible first | exact HB.out | apply below_alloc | apply pw_below_drewN | apply below_drew1 | refine below_set ?_ GE190.out) | exact HB.out)))); have n2_ := Aside0.mk (blk_below (g := gb190) (o := .cells #[.slice A0_0 l0_0.length c0_0] 24 (0, 0)) (by (with_reducible repeat (first | refine blk_drewN ?_ _ | refine blk_drew ?_ | refine blk_alloc ?_ _)); exact BK190.out) hb); have n3_ := Aside0.mk (below_step (by repeat (first | (with_reducible first | exact HB.out | apply below_alloc | apply pw_below_drewN | apply below_drew1 | refine below_set ?_ GE190.out) | exact HB.out)) hb); clear HO194; clear BK190; clear HB; have HO194 := n0_; have HO197 := n1_; have BK190 := n2_; have HB := n3_; clear n0_ n1_ n2_ n3_; (try clear hb); (try clear hb2); (try clear hk); (try clear hi); (try clear ho0); have hcz40_0 : w39.cell? ⟨gb190, 0, none⟩ = some (.slice A0_0 l0_0.length c0_0) := (blk_cell BK190.out 0).trans rfl; have hfz40_0 := blk_frozen BK190.out 0) | ((with_reducible refine gate_callee (f := 6) rfl ?_); refine goesL_ (some 26) rfl rfl Tryd.func6 (by kernel_rfl) rfl #[.agg #[.slice A0_0 l0_0.length c0_0]] rfl (by (try simp only [List.map_toArray, List.map_cons, List.map_nil]); first | done | rfl | (simp only [List.length_drop, List.length_take]; rfl)) ?_; (with_reducible refine (laws_toLamps.calls k _ _ l0_0 t199 _ ?side1 ?side2 A9.out).mono ?_); (case side1 => repeat (first | exact (Kd.C_below HR0_0.out HB.out) | (with_reducible refine Kd.C_alloc ?_ _) | (with_reducible refine Kd.C_drewN ?_ _) | (with_reducible refine Kd.C_drew ?_))); (case side2 => exact HC0_0.out); rintro e w41 ⟨v200, rfl, ho0, hb⟩; refine ⟨_, rfl, ?_⟩; have n0_ := Aside0.mk (Kd.R_elder' (by (with_reducible repeat (first | apply Kd.R_alloc | apply Kd.R_drewN | apply Kd.R_drew)); exact HO194.out) (Kd.R_base ho0) hb); have n1_ := Aside0.mk (Kd.S_below (by (with_reducible repeat (first | apply Kd.S_alloc | apply Kd.S_drewN | apply Kd.S_drew)); exact HO197.out) hb); have n2_ := Aside0.mk (Kd.R_lower (Kd.R_new' ho0 (Kd.R_lt (by (with_reducible repeat (first | apply Kd.R_alloc | apply Kd.R_drewN | apply Kd.R_drew)); exact HO194.out))) (below_size (by repeat (first | (with_reducible first | exact HB.out | apply below_alloc | apply pw_below_drewN | apply below_drew1 | refine below_set ?_ GE190.out) | exact HB.out)))); have n3_ := Aside0.mk (blk_below (g := gb190) (o := .cells #[.slice A0_0 l0_0.length c0_0] 24 (0, 0)) (by (with_reducible repeat (first | refine blk_drewN ?_ _ | refine blk_drew ?_ | refine blk_alloc ?_ _)); exact BK190.out) hb); have n4_ := Aside0.mk (below_step (by repeat (first | (with_reducible first | exact HB.out | apply below_alloc | apply pw_below_drewN | apply below_drew1 | refine below_set ?_ GE190.out) | exact HB.out)) hb); clear HO194; clear HO197; clear BK190; clear HB; have HO194 := n0_; have HO197 := n1_; have HO201 := n2_; have BK190 := n3_; have HB := n4_; clear n0_ n1_ n2_ n3_ n4_; (try clear hb); (try clear hb2); (try clear hk); (try clear hi); (try clear ho0)) | ((with_reducible refine gate_dst (N := 6) rfl ?_); refine box_event ?hg (N := 6) ?hd (cs := #[.slice none 0 0]) (t := 29) ?hr ?_; (case hd => rfl); (case hg => rfl); (case hr => first | (go_simp; done) | (go_simp; rfl)); intro gb202 hg w42 hbox hb; have n0_ := Aside0.mk (Kd.R_below (by (with_reducible repeat (first | apply Kd.R_alloc | apply Kd.R_drewN | apply Kd.R_drew)); exact HO194.out) hb); have n1_ := Aside0.mk (Kd.S_below (by (with_reducible repeat (first | apply Kd.S_alloc | apply Kd.S_drewN | apply Kd.S_drew)); exact HO197.out) hb); have n2_ := Aside0.mk (Kd.R_below (by (with_reducible repeat (first | apply Kd.R_alloc | apply Kd.R_drewN | apply Kd.R_drew)); exact HO201.out) hb); have n3_ := Aside0.mk (blk_below (g := gb190) (o := .cells #[.slice A0_0 l0_0.length c0_0] 24 (0, 0)) (by (with_reducible repeat (first | refine blk_drewN ?_ _ | refine blk_drew ?_ | refine blk_alloc ?_ _)); exact BK190.out) hb); have n4_ := Aside0.mk (below_step (by repeat (first | (with_reducible first | exact HB.out | apply below_alloc | apply pw_below_drewN | apply below_drew1 | refine below_set ?_ GE190.out) | exact HB.out)) hb); have n5_ := Aside0.mk (hbox); have n6_ := Aside0.mk ((by rw [hg]; exact (below_size (by repeat (first | (with_reducible first | exact HB.out | apply below_alloc | apply pw_below_drewN | apply below_drew1 | refine below_set ?_ GE190.out) | exact HB.out))) : w.heap.size ≤ gb202)); have n7_ := Aside0.mk ((by rw [hg]; exact (below_size (by repeat (first | (with_reducible first | exact HB.out | apply below_alloc | apply pw_below_drewN | apply below_drew1 | refine below_set ?_ GE190.out) | exact HB.out))) : w.heap.size ≤ gb202)); have n8_ := Aside0.mk ((by rw [hg]; exact Nat.ne_of_lt (blk_lt (g := gb190) (o := .cells #[.slice A0_0 l0_0.length c0_0] 24 (0, 0)) (by (with_reducible repeat (first | refine blk_drewN ?_ _ | refine blk_drew ?_ | refine blk_alloc ?_ _)); exact BK190.out)) : gb190 ≠ gb202)); have n9_ := Aside0.mk ((by rw [hg]; exact Nat.ne_of_gt (blk_lt (g := gb190) (o := .cells #[.slice A0_0 l0_0.length c0_0] 24 (0, 0)) (by (with_reducible repeat (first | refine blk_drewN ?_ _ | refine blk_drew ?_ | refine blk_alloc ?_ _)); exact BK190.out)) : gb202 ≠ gb190)); clear HO194; clear HO197; clear HO201; clear BK190; clear HB; have HO194 := n0_; have HO197 := n1_; have HO201 := n2_; have BK190 := n3_; have HB := n4_; have BK202 := n5_; have GW202 := n6_; have GE202 := n7_; have NB190_202 := n8_; have NB202_190 := n9_; clear n0_ n1_ n2_ n3_ n4_ n5_ n6_ n7_ n8_ n9_; clear hb hbox hg; obtain ⟨Ao43, co43, eo43⟩ := Kd.R_slice HO201.out; subst eo43; have hnb44 := NB202_190.out; have hnc44 := NB190_202.out; have hcz45_0 : w42.cell? ⟨gb202, 0, none⟩ = some (.slice none 0 0) := (blk_cell BK202.out 0).trans rfl; have hfz45_0 := blk_frozen BK202.out 0) | ((with_reducible refine gate_callee (f := 7) rfl ?_); refine goesL_ (some 29) rfl rfl Tryd.func7 (by kernel_rfl) rfl #[.agg #[.slice Ao43 t199.length co43]] rfl (by (try simp only [List.map_toArray, List.map_cons, List.map_nil]); first | done | rfl | (simp only [List.length_drop, List.length_take]; rfl)) ?_; (with_reducible refine (impl_CyclesOfLamps.calls _ _ t199 t203 t206 _ ?side1 ?side2 A10.out).mono ?_); (case side1 => refine (Kd.R_reads' (e := 9) (base := w.heap.size) (ok := fun k_ => (True ∧ some k_ ≠ (.slice Ao38 t192.length co38 : Value).ownBlock)) (n := t199.length) (c := co43) ?_).2.2; exact (by (with_reducible repeat (first | apply Kd.R_alloc | apply Kd.R_drewN | apply Kd.R_drew)); exact (Kd.R_mono (Kd.R_far (p := ⟨gb202, 0, none⟩) (Kd.R_types HO201.out BK202.out (by decide)) (fun _ hk => hk.2) (.slice Ao43 t199.length co43)) (fun _ h_ => h_.1)))); (case side2 => exact (Kd.R_reads' HO201.out).2.1); rintro e w46 ⟨v204, rfl, ho0, hb⟩; refine ⟨_, rfl, ?_⟩; have HX := Aside0.mk (Apt.make (by (with_reducible repeat (first | apply Kd.S_alloc | apply Kd.S_drewN | apply Kd.S_drew)); exact (Kd.S_mono (Kd.S_far (p := ⟨gb202, 0, none⟩) (Kd.S_types HO197.out BK202.out (by decide)) (fun _ hk => hk.2) (.slice Ao43 t199.length co43)) (fun _ h_ => h_.1))) ho0 hb (below_size (by repeat (first | (with_reducible first | exact HB.out | apply below_alloc | apply pw_below_drewN | apply below_drew1 | refine below_set ?_ GE190.out | refine below_set ?_ GE202.out) | exact HB.out)))); have n0_ := Aside0.mk (Kd.R_below (by (with_reducible repeat (first | apply Kd.R_alloc | apply Kd.R_drewN | apply Kd.R_drew)); exact (Kd.R_mono (Kd.R_far (p := ⟨gb202, 0, none⟩) (Kd.R_types HO194.out BK202.out (by decide)) (fun _ hk => hk.2) (.slice Ao43 t199.length co43)) (fun _ h_ => h_.1))) hb); have n1_ := Aside0.mk (Kd.S_elder' (by (with_reducible repeat (first | apply Kd.S_alloc | apply Kd.S_drewN | apply Kd.S_drew)); exact (Kd.S_mono (Kd.S_far (p := ⟨gb202, 0, none⟩) (Kd.S_types HO197.out BK202.out (by decide)) (fun _ hk => hk.2) (.slice Ao43 t199.length co43)) (fun _ h_ => h_.1))) (Kd.S_base ho0) hb); have n2_ := Aside0.mk (Kd.R_below (by (with_reducible repeat (first | apply Kd.R_alloc | apply Kd.R_drewN | apply Kd.R_drew)); exact (Kd.R_mono (Kd.R_far (p := ⟨gb202, 0, none⟩) (Kd.R_types HO201.out BK202.out (by decide)) (fun _ hk => hk.2) (.slice Ao43 t199.length co43)) (fun _ h_ => h_.1))) hb); have n3_ := Aside0.mk (Kd.S_lower (Kd.S_new' ho0 (Kd.S_lt (by (with_reducible repeat (first | apply Kd.S_alloc | apply Kd.S_drewN | apply Kd.S_drew)); exact (Kd.S_mono (Kd.S_far (p := ⟨gb202, 0, none⟩) (Kd.S_types HO197.out BK202.out (by decide)) (fun _ hk => hk.2) (.slice Ao43 t199.length co43)) (fun _ h_ => h_.1))))) (below_size (by repeat (first | (with_reducible first | exact HB.out | apply below_alloc | apply pw_below_drewN | apply below_drew1 | refine below_set ?_ GE190.out | refine below_set ?_ GE202.out) | exact HB.out)))); have n4_ := Aside0.mk (blk_below (g := gb190) (o := .cells #[.slice A0_0 l0_0.length c0_0] 24 (0, 0)) (by (with_reducible repeat (first | refine blk_drewN ?_ _ | refine blk_drew ?_ | refine blk_alloc ?_ _)); refine blk_far ?_ NB190_202.out _; (with_reducible repeat (first | refine blk_drewN ?_ _ | refine blk_drew ?_ | refine blk_alloc ?_ _)); exact BK190.out) hb); have n5_ := Aside0.mk (blk_below (g := gb202) (o := .cells #[.slice Ao43 t199.length co43] 29 (0, 0)) (by (with_reducible repeat (first | refine blk_drewN ?_ _ | refine blk_drew ?_ | refine blk_alloc ?_ _)); refine blk_put (cs := #[.slice none 0 0]) ?_ 0 _ rfl; (with_reducible repeat (first | refine blk_drewN ?_ _ | refine blk_drew ?_ | refine blk_alloc ?_ _)); exact BK202.out) hb); have n6_ := Aside0.mk (below_step (by repeat (first | (with_reducible first | exact HB.out | apply below_alloc | apply pw_below_drewN | apply below_drew1 | refine below_set ?_ GE190.out | refine below_set ?_ GE202.out) | exact HB.out)) hb); clear HO194; clear HO197; clear HO201; clear BK190; clear BK202; clear HB; have HO194 := n0_; have HO197 := n1_; have HO201 := n2_; have HO205 := n3_; have BK190 := n4_; have BK202 := n5_; have HB := n6_; clear n0_ n1_ n2_ n3_ n4_ n5_ n6_; (try clear hb); (try clear hb2); (try clear hk); (try clear hi); (try clear ho0); obtain ⟨Ao47, co47, eo47⟩ := Kd.S_slice HO205.out; subst eo47; obtain ⟨Ao48, co48, eo48⟩ := Kd.S_slice HO197.out; subst eo48) | ((with_reducible refine gate_callee (f := 8) rfl ?_); refine goesL_ (some 34) rfl rfl Tryd.func8 (by kernel_rfl) rfl #[.slice Ao47 t203.length co47, .slice Ao48 t195.length co48] rfl (by (try simp only [List.map_toArray, List.map_cons, List.map_nil]); first | done | rfl | (simp only [List.length_drop, List.length_take]; rfl)) ?_; (with_reducible refine (laws_eqIntSS.calls k _ _ t203 _ _ t195 true _ ?side1 ?side2 ?side3 ?side4 A11.out).mono ?_); (case side1 => repeat (first | exact (Kd.S_reads' HO205.out).2.2 | (with_reducible refine Kd.C_alloc ?_ _) | (with_reducible refine Kd.C_drewN ?_ _) | (with_reducible refine Kd.C_drew ?_))); (case side2 => exact (Kd.S_reads' HO205.out).2.1); (case side3 => repeat (first | exact (Kd.S_reads' HO197.out).2.2 | (with_reducible refine Kd.C_alloc ?_ _) | (with_reducible refine Kd.C_drewN ?_ _) | (with_reducible refine Kd.C_drew ?_))); (case side4 => exact (Kd.S_reads' HO197.out).2.1); rintro e w' ⟨rfl, ⟨nd, rfl⟩⟩; refine ⟨_, rfl, ?_⟩))
             (try (rw [drewN_self w46]; generalize hq_ : World.drewN w46 _ = w46; replace HX : Aside0 (Apt w.heap.size w46 (.slice Ao48 t195.length co48) (.slice Ao47 t203.length co47) t195 t203) := ⟨by rw [← hq_]; exact Apt.drewN HX.out _⟩; have n0_ : Aside0 (Kd.R Kd.string 9 w46 w.heap.size (fun k_ => some k_ ≠ (.slice Ao43 t199.length co43 : Value).ownBlock) (.slice Ao38 t192.length co38) t192) := ⟨by rw [← hq_]; exact (by (with_reducible repeat (first | apply Kd.R_alloc | apply Kd.R_drewN | apply Kd.R_drew)); exact Kd.R_mono HO194.out (fun _ hk => hk.2))⟩; have n1_ : Aside0 (Kd.S (Kd.slice 3 (Kd.int .i64)) 38 w46 w.heap.size (fun k_ => some k_ ≠ (.slice Ao47 t203.length co47 : Value).ownBlock) (.slice Ao48 t195.length co48) t195) := ⟨by rw [← hq_]; exact (by (with_reducible repeat (first | apply Kd.S_alloc | apply Kd.S_drewN | apply Kd.S_drew)); exact Kd.S_mono HO197.out (fun _ hk => hk.2))⟩; have n2_ : Aside0 (Kd.R Kd.string 9 w46 w.heap.size (fun k_ => some k_ ≠ (.slice Ao38 t192.length co38 : Value).ownBlock) (.slice Ao43 t199.length co43) t199) := ⟨by rw [← hq_]; exact (by (with_reducible repeat (first | apply Kd.R_alloc | apply Kd.R_drewN | apply Kd.R_drew)); exact Kd.R_mono HO201.out (fun _ hk => hk.2))⟩; have n3_ : Aside0 (Kd.S (Kd.slice 3 (Kd.int .i64)) 38 w46 w.heap.size (fun k_ => some k_ ≠ (.slice Ao48 t195.length co48 : Value).ownBlock) (.slice Ao47 t203.length co47) t203) := ⟨by rw [← hq_]; exact (by (with_reducible repeat (first | apply Kd.S_alloc | apply Kd.S_drewN | apply Kd.S_drew)); exact Kd.S_mono HO205.out (fun _ hk => hk.2))⟩; have n4_ : Aside0 (w46.heap[gb190]? = some (.cells #[.slice A0_0 l0_0.length c0_0] 24 (0, 0))) := ⟨by rw [← hq_]; exact (by (with_reducible repeat (first | refine blk_drewN ?_ _ | refine blk_drew ?_ | refine blk_alloc ?_ _)); exact BK190.out)⟩; have n5_ : Aside0 (w46.heap[gb202]? = some (.cells #[.slice Ao43 t199.length co43] 29 (0, 0))) := ⟨by rw [← hq_]; exact (by (with_reducible repeat (first | refine blk_drewN ?_ _ | refine blk_drew ?_ | refine blk_alloc ?_ _)); exact BK202.out)⟩; have n6_ : Aside0 (Below w.heap.size w w46) := ⟨by rw [← hq_]; exact (by repeat (first | (with_reducible first | exact HB.out | apply below_alloc | apply pw_below_drewN | apply below_drew1 | refine below_set ?_ GE190.out | refine below_set ?_ GE202.out) | exact HB.out))⟩; clear HO194 HO197 HO201 HO205 BK190 BK202 HB hq_; have HO194 := n0_; have HO197 := n1_; have HO201 := n2_; have HO205 := n3_; have BK190 := n4_; have BK202 := n5_; have HB := n6_; clear n0_ n1_ n2_ n3_ n4_ n5_ n6_))
             have n0_ := Aside0.mk (Kd.R_drew HO194.out)
             have n1_ := Aside0.mk (Kd.S_drew HO197.out)
             have n2_ := Aside0.mk (Kd.R_drew HO201.out)
             have n3_ := Aside0.mk (Kd.S_drew HO205.out)
             replace HX := Aside0.mk (Apt.drew HX.out)
             have n4_ := Aside0.mk (blk_drew BK190.out)
             have n5_ := Aside0.mk (blk_drew BK202.out)
             have n6_ := Aside0.mk (below_drew1 HB.out)
             clear HO194
             clear HO197
             clear HO201
             clear HO205
             clear BK190
             clear BK202
             clear HB
             have HO194 := n0_
             have HO197 := n1_
             have HO201 := n2_
             have HO205 := n3_
             have BK190 := n4_
             have BK202 := n5_
             have HB := n6_
             clear n0_ n1_ n2_ n3_ n4_ n5_ n6_
             refine start_ (n := 5) (S := fun w' => w'.cell? ⟨gb202, 0, none⟩ = some (.slice Ao43 t199.length co43) ∧ w'.cell? ⟨gb190, 0, none⟩ = some (.slice A0_0 l0_0.length c0_0)) (ds := []) #[false, false, false, false, false] (by kernel_rfl) rfl rfl ⟨(blk_cell BK202.out 0).trans rfl, (blk_cell BK190.out 0).trans rfl⟩ (fun hHeld => ?_)
             generalize w46.drew = w49 at HX HO194 HO197 HO201 HO205 BK190 BK202 HB hHeld ⊢
             refine take_ (i := 0) (N := some 41) (v := ?_) (a' := ?_) #[true, false, false, false, false] rfl rfl (by kernel_rfl) (fun _ _ _ h => h) (Or.inl ⟨by rfl, ?_⟩) hHeld ?_ ?_
             rotate_left
             ·rintro w' ⟨s0, s1⟩
              go_simp
              with_reducible rfl
             rotate_left
             ·simp only [Act.put, List.setIfInBounds_toArray, List.set_cons_zero, List.set_cons_succ, i64_w, i32_w]
              rfl
             refine take_ (i := 1) (N := some 42) (v := ?_) (a' := ?_) #[true, true, false, false, false] rfl rfl (by kernel_rfl) (fun _ _ _ h => h) (Or.inl ⟨by rfl, ?_⟩) hHeld ?_ ?_
             rotate_left
             ·rintro w' ⟨s0, s1⟩
              go_simp
              with_reducible rfl
             rotate_left
             ·simp only [Act.put, List.setIfInBounds_toArray, List.set_cons_zero, List.set_cons_succ, i64_w, i32_w]
              rfl
             refine one_ (i := 2) (N := some 43) #[true, true, true, false, false] rfl rfl (by kernel_rfl) (by decide) (fun K hK => ?_)
             refine goes_ Tryd.func6 (by kernel_rfl) rfl #[.agg #[.slice A0_0 l0_0.length c0_0]] (by rfl) rfl rfl (by (try simp only [List.map_toArray, List.map_cons, List.map_nil]); first | done | rfl | (simp only [List.length_drop, List.length_take]; rfl)) ?_
             with_reducible refine (laws_toLamps.calls k _ _ l0_0 t208 _ ?side1 ?side2 A14.out).mono ?_
             (case side1 => repeat (first | exact (Kd.C_below HR0_0.out HB.out) | (with_reducible refine Kd.C_alloc ?_ _) | (with_reducible refine Kd.C_drewN ?_ _) | (with_reducible refine Kd.C_drew ?_)))
             (case side2 => exact HC0_0.out)
             rintro e w50 ⟨v209, rfl, ho0, hb⟩
             refine ⟨_, rfl, ?_⟩
             have n0_ := Aside0.mk (Kd.R_elder' (by (with_reducible repeat (first | apply Kd.R_alloc | apply Kd.R_drewN | apply Kd.R_drew)); exact HO194.out) (Kd.R_base ho0) hb)
             have n1_ := Aside0.mk (Kd.S_below (by (with_reducible repeat (first | apply Kd.S_alloc | apply Kd.S_drewN | apply Kd.S_drew)); exact HO197.out) hb)
             have n2_ := Aside0.mk (Kd.R_elder' (by (with_reducible repeat (first | apply Kd.R_alloc | apply Kd.R_drewN | apply Kd.R_drew)); exact HO201.out) (Kd.R_base ho0) hb)
             have n3_ := Aside0.mk (Kd.S_below (by (with_reducible repeat (first | apply Kd.S_alloc | apply Kd.S_drewN | apply Kd.S_drew)); exact HO205.out) hb)
             replace HX := Aside0.mk (Apt.below (by (with_reducible repeat (first | apply Apt.alloc | apply Apt.drewN | apply Apt.drew)); exact HX.out) hb)
             have n4_ := Aside0.mk (Kd.R_lower (Kd.R_new' (Kd.R_new' ho0 (Kd.R_lt (by (with_reducible repeat (first | apply Kd.R_alloc | apply Kd.R_drewN | apply Kd.R_drew)); exact HO194.out))) (Kd.R_lt (by (with_reducible repeat (first | apply Kd.R_alloc | apply Kd.R_drewN | apply Kd.R_drew)); exact HO201.out))) (below_size (by repeat (first | (with_reducible first | exact HB.out | apply below_alloc | apply pw_below_drewN | apply below_drew1 | refine below_set ?_ GE190.out | refine below_set ?_ GE202.out) | exact HB.out))))
             have n5_ := Aside0.mk (blk_below (g := gb190) (o := .cells #[.slice A0_0 l0_0.length c0_0] 24 (0, 0)) (by (with_reducible repeat (first | refine blk_drewN ?_ _ | refine blk_drew ?_ | refine blk_alloc ?_ _)); exact BK190.out) hb)
             have n6_ := Aside0.mk (blk_below (g := gb202) (o := .cells #[.slice Ao43 t199.length co43] 29 (0, 0)) (by (with_reducible repeat (first | refine blk_drewN ?_ _ | refine blk_drew ?_ | refine blk_alloc ?_ _)); exact BK202.out) hb)
             have n7_ := Aside0.mk (below_step (by repeat (first | (with_reducible first | exact HB.out | apply below_alloc | apply pw_below_drewN | apply below_drew1 | refine below_set ?_ GE190.out | refine below_set ?_ GE202.out) | exact HB.out)) hb)
             clear HO194
             clear HO197
             clear HO201
             clear HO205
             clear BK190
             clear BK202
             clear HB
             have HO194 := n0_
             have HO197 := n1_
             have HO201 := n2_
             have HO205 := n3_
             have HO210 := n4_
             have BK190 := n5_
             have BK202 := n6_
             have HB := n7_
             clear n0_ n1_ n2_ n3_ n4_ n5_ n6_ n7_
             (try clear hb)
             (try clear hb2)
             (try clear hk)
             (try clear hi)
             (try clear ho0)
             obtain ⟨Ao51, co51, eo51⟩ := Kd.R_slice HO210.out
             (first | subst eo51 | (injection eo51 with f1_ f2_ f3_; have f4_ := f1_.symm; have f5_ := f3_.symm; clear f1_ f2_ f3_; subst f4_; subst f5_))
             refine hK.out _ _ ⟨(blk_cell BK202.out 0).trans rfl, (blk_cell BK190.out 0).trans rfl⟩ (fun hHeld => ?_)
             clear hK K
             refine norm_ (a' := ?_) ?_ ?_
             rotate_left
             ·show Act.put _ (some 43) _ = _
              simp only [Act.put, List.setIfInBounds_toArray, List.set_cons_zero, List.set_cons_succ, i64_w, i32_w]
              rfl
             refine one_ (i := 3) (N := some 44) #[true, true, true, true, false] rfl rfl (by kernel_rfl) (by decide) (fun K hK => ?_)
             refine goes_ Tryd.func9 (by kernel_rfl) rfl #[.agg #[.slice Ao43 t199.length co43], .agg #[.slice Ao51 t208.length co51]] (by rfl) rfl rfl (by (try simp only [List.map_toArray, List.map_cons, List.map_nil]); first | done | rfl | (simp only [List.length_drop, List.length_take]; rfl)) ?_
             with_reducible refine (laws_eqLamps.calls k _ _ t199 _ _ t208 true _ ?side1 ?side2 ?side3 ?side4 A15.out).mono ?_
             (case side1 => repeat (first | exact (Kd.R_reads' HO201.out).2.2 | (with_reducible refine Kd.C_alloc ?_ _) | (with_reducible refine Kd.C_drewN ?_ _) | (with_reducible refine Kd.C_drew ?_)))
             (case side2 => exact (Kd.R_reads' HO201.out).2.1)
             (case side3 => repeat (first | exact (Kd.R_reads' HO210.out).2.2 | (with_reducible refine Kd.C_alloc ?_ _) | (with_reducible refine Kd.C_drewN ?_ _) | (with_reducible refine Kd.C_drew ?_)))
             (case side4 => exact (Kd.R_reads' HO210.out).2.1)
             rintro e w52 ⟨rfl, hb⟩
             refine ⟨_, rfl, ?_⟩
             have n0_ := Aside0.mk (Kd.R_below (by (with_reducible repeat (first | apply Kd.R_alloc | apply Kd.R_drewN | apply Kd.R_drew)); exact HO194.out) hb)
             have n1_ := Aside0.mk (Kd.S_below (by (with_reducible repeat (first | apply Kd.S_alloc | apply Kd.S_drewN | apply Kd.S_drew)); exact HO197.out) hb)
             have n2_ := Aside0.mk (Kd.R_below (by (with_reducible repeat (first | apply Kd.R_alloc | apply Kd.R_drewN | apply Kd.R_drew)); exact HO201.out) hb)
             have n3_ := Aside0.mk (Kd.S_below (by (with_reducible repeat (first | apply Kd.S_alloc | apply Kd.S_drewN | apply Kd.S_drew)); exact HO205.out) hb)
             replace HX := Aside0.mk (Apt.below (by (with_reducible repeat (first | apply Apt.alloc | apply Apt.drewN | apply Apt.drew)); exact HX.out) hb)
             have n4_ := Aside0.mk (Kd.R_below (by (with_reducible repeat (first | apply Kd.R_alloc | apply Kd.R_drewN | apply Kd.R_drew)); exact HO210.out) hb)
             have n5_ := Aside0.mk (blk_below (g := gb190) (o := .cells #[.slice A0_0 l0_0.length c0_0] 24 (0, 0)) (by (with_reducible repeat (first | refine blk_drewN ?_ _ | refine blk_drew ?_ | refine blk_alloc ?_ _)); exact BK190.out) hb)
             have n6_ := Aside0.mk (blk_below (g := gb202) (o := .cells #[.slice Ao43 t199.length co43] 29 (0, 0)) (by (with_reducible repeat (first | refine blk_drewN ?_ _ | refine blk_drew ?_ | refine blk_alloc ?_ _)); exact BK202.out) hb)
             have n7_ := Aside0.mk (below_step (by repeat (first | (with_reducible first | exact HB.out | apply below_alloc | apply pw_below_drewN | apply below_drew1 | refine below_set ?_ GE190.out | refine below_set ?_ GE202.out) | exact HB.out)) hb)
             clear HO194
             clear HO197
             clear HO201
             clear HO205
             clear HO210
             clear BK190
             clear BK202
             clear HB
             have HO194 := n0_
             have HO197 := n1_
             have HO201 := n2_
             have HO205 := n3_
             have HO210 := n4_
             have BK190 := n5_
             have BK202 := n6_
             have HB := n7_
             clear n0_ n1_ n2_ n3_ n4_ n5_ n6_ n7_
             (try clear hb)
             (try clear hb2)
             (try clear hk)
             (try clear hi)
             refine hK.out _ _ ⟨(blk_cell BK202.out 0).trans rfl, (blk_cell BK190.out 0).trans rfl⟩ (fun hHeld => ?_)
             clear hK K
             refine norm_ (a' := ?_) ?_ ?_
             rotate_left
             ·show Act.put _ (some 44) _ = _
              simp only [Act.put, List.setIfInBounds_toArray, List.set_cons_zero, List.set_cons_succ, i64_w, i32_w]
              rfl
             refine pure_ (i := 4) (N := some 45) (v := ?_) (a' := ?_) #[true, true, true, true, true] rfl rfl (by kernel_rfl) (fun _ _ _ h => h) (Or.inl ⟨by rfl, ?_⟩) ?_ ?_
             rotate_left
             ·intro w'
              go_simp
              with_reducible rfl
             rotate_left
             ·simp only [Act.put, List.setIfInBounds_toArray, List.set_cons_zero, List.set_cons_succ, i64_w, i32_w]
              rfl
             refine done_ (by kernel_rfl) ?_
             have hcz53_0 : w52.cell? ⟨gb202, 0, none⟩ = some (.slice Ao43 t199.length co43) := (blk_cell BK202.out 0).trans rfl
             have hfz53_0 := blk_frozen BK202.out 0
             try go_wp2_with (first | ((with_reducible refine gate_callee (f := 10) rfl ?_); refine goesL_ (some 48) rfl rfl Tryd.func10 (by kernel_rfl) rfl #[.agg #[.slice Ao43 t199.length co43], .int .i64 1] rfl (by (try simp only [List.map_toArray, List.map_cons, List.map_nil]); first | done | rfl | (simp only [List.length_drop, List.length_take]; rfl)) ?_; (with_reducible refine (laws_markLamps.calls k (fun k_ => some k_ = (.slice Ao43 t199.length co43 : Value).ownBlock) (.slice Ao43 t199.length co43) t199 1 t212 t213 w _ ?side1 ?side2 A17.out).mono ?_); (case side1 => repeat (first | (with_reducible first | exact HB.out | apply below_alloc | apply pw_below_drewN | apply below_drew1 | refine below_set ?_ GE190.out | refine below_set ?_ GE202.out) | exact HB.out)); (case side2 => exact Kd.R_tight rfl HO201.out); rintro e w54 ⟨rfl, hy0, hb, hkp⟩; refine ⟨_, rfl, ?_⟩; replace HX := Aside0.mk (Apt.kept (by (with_reducible repeat (first | apply Apt.alloc | apply Apt.drewN | apply Apt.drew)); exact HX.out) (Kd.R_typed HO201.out) hkp); have n0_ := Aside0.mk (blk_kept (by (with_reducible repeat (first | refine blk_drewN ?_ _ | refine blk_drew ?_ | refine blk_alloc ?_ _)); exact BK190.out) hkp (fun hs_ => (fun e_ => (Kd.R_ne HO201.out BK190.out (by decide)) e_) hs_)); have n1_ := Aside0.mk (Kd.R_mono (ok' := fun k_ => some k_ ≠ (.slice Ao43 t199.length co43 : Value).ownBlock ∧ some k_ ≠ (.slice Ao51 t208.length co51 : Value).ownBlock) (Kd.R_keptB (HO194.out) hkp (by intro k_ hk_ hs_; first | exact hk_.1.2 hs_ | exact hk_.2 hs_ | exact hk_.1.1 hs_ | exact hk_.1 hs_ | exact hk_.1.1.2 hs_ | exact hk_.1.2.1 hs_ | exact hk_.1.2.2 hs_ | exact hk_.2.1 hs_ | exact hk_.2.2 hs_ | exact hk_.1.1.1 hs_ | exact hk_.2.1.1 hs_ | exact hk_.2.1.2 hs_ | exact hk_.2.2.1 hs_ | exact hk_.2.2.2 hs_ | exact hk_.1.1.2.1 hs_ | exact hk_.1.1.1.2 hs_ | exact hk_.1.1.1.1 hs_ | exact hk_.1.1.2.2 hs_ | exact hk_.1.2.2.1 hs_ | exact hk_.1.2.2.2 hs_ | exact hk_.1.1.1.1.2 hs_ | exact hk_.1.2.2.2.1 hs_ | exact hk_.1.2.2.2.2 hs_ | exact hk_ hs_)) (by intro k_ hk_; (repeat' refine And.intro ?_ ?_) <;> (first | exact hk_.1.2 | exact hk_.2 | exact hk_.1.1 | exact hk_.1 | exact hk_.1.1.2 | exact hk_.1.2.1 | exact hk_.1.2.2 | exact hk_.2.1 | exact hk_.2.2 | exact hk_.1.1.1 | exact hk_.2.1.1 | exact hk_.2.1.2 | exact hk_.2.2.1 | exact hk_.2.2.2 | exact hk_.1.1.2.1 | exact hk_.1.1.1.2 | exact hk_.1.1.1.1 | exact hk_.1.1.2.2 | exact hk_.1.2.2.1 | exact hk_.1.2.2.2 | exact hk_.1.1.1.1.2 | exact hk_.1.2.2.2.1 | exact hk_.1.2.2.2.2 | exact hk_))); have n2_ := Aside0.mk (Kd.S_mono (ok' := fun k_ => some k_ ≠ (.slice Ao47 t203.length co47 : Value).ownBlock) (Kd.S_keptB ((Kd.S_apart' HO197.out (Kd.R_typed HO201.out) (by decide))) hkp (by intro k_ hk_ hs_; first | exact hk_.1.2 hs_ | exact hk_.2 hs_ | exact hk_.1.1 hs_ | exact hk_.1 hs_ | exact hk_.1.1.2 hs_ | exact hk_.1.2.1 hs_ | exact hk_.1.2.2 hs_ | exact hk_.2.1 hs_ | exact hk_.2.2 hs_ | exact hk_.1.1.1 hs_ | exact hk_.2.1.1 hs_ | exact hk_.2.1.2 hs_ | exact hk_.2.2.1 hs_ | exact hk_.2.2.2 hs_ | exact hk_.1.1.2.1 hs_ | exact hk_.1.1.1.2 hs_ | exact hk_.1.1.1.1 hs_ | exact hk_.1.1.2.2 hs_ | exact hk_.1.2.2.1 hs_ | exact hk_.1.2.2.2 hs_ | exact hk_.1.1.1.1.2 hs_ | exact hk_.1.2.2.2.1 hs_ | exact hk_.1.2.2.2.2 hs_ | exact hk_ hs_)) (by intro k_ hk_; (repeat' refine And.intro ?_ ?_) <;> (first | exact hk_.1.2 | exact hk_.2 | exact hk_.1.1 | exact hk_.1 | exact hk_.1.1.2 | exact hk_.1.2.1 | exact hk_.1.2.2 | exact hk_.2.1 | exact hk_.2.2 | exact hk_.1.1.1 | exact hk_.2.1.1 | exact hk_.2.1.2 | exact hk_.2.2.1 | exact hk_.2.2.2 | exact hk_.1.1.2.1 | exact hk_.1.1.1.2 | exact hk_.1.1.1.1 | exact hk_.1.1.2.2 | exact hk_.1.2.2.1 | exact hk_.1.2.2.2 | exact hk_.1.1.1.1.2 | exact hk_.1.2.2.2.1 | exact hk_.1.2.2.2.2 | exact hk_))); have n3_ := Aside0.mk (Kd.R_reok rfl hy0 (fun k_ e_ => HO201.out.1 k_ e_)); have n4_ := Aside0.mk (blk_kept (by (with_reducible repeat (first | refine blk_drewN ?_ _ | refine blk_drew ?_ | refine blk_alloc ?_ _)); exact BK202.out) hkp (fun hs_ => (fun e_ => (Kd.R_ne HO201.out BK202.out (by decide)) e_) hs_)); have n5_ := Aside0.mk (Kd.S_mono (ok' := fun k_ => some k_ ≠ (.slice Ao48 t195.length co48 : Value).ownBlock) (Kd.S_keptB ((Kd.S_apart' HO205.out (Kd.R_typed HO201.out) (by decide))) hkp (by intro k_ hk_ hs_; first | exact hk_.1.2 hs_ | exact hk_.2 hs_ | exact hk_.1.1 hs_ | exact hk_.1 hs_ | exact hk_.1.1.2 hs_ | exact hk_.1.2.1 hs_ | exact hk_.1.2.2 hs_ | exact hk_.2.1 hs_ | exact hk_.2.2 hs_ | exact hk_.1.1.1 hs_ | exact hk_.2.1.1 hs_ | exact hk_.2.1.2 hs_ | exact hk_.2.2.1 hs_ | exact hk_.2.2.2 hs_ | exact hk_.1.1.2.1 hs_ | exact hk_.1.1.1.2 hs_ | exact hk_.1.1.1.1 hs_ | exact hk_.1.1.2.2 hs_ | exact hk_.1.2.2.1 hs_ | exact hk_.1.2.2.2 hs_ | exact hk_.1.1.1.1.2 hs_ | exact hk_.1.2.2.2.1 hs_ | exact hk_.1.2.2.2.2 hs_ | exact hk_ hs_)) (by intro k_ hk_; (repeat' refine And.intro ?_ ?_) <;> (first | exact hk_.1.2 | exact hk_.2 | exact hk_.1.1 | exact hk_.1 | exact hk_.1.1.2 | exact hk_.1.2.1 | exact hk_.1.2.2 | exact hk_.2.1 | exact hk_.2.2 | exact hk_.1.1.1 | exact hk_.2.1.1 | exact hk_.2.1.2 | exact hk_.2.2.1 | exact hk_.2.2.2 | exact hk_.1.1.2.1 | exact hk_.1.1.1.2 | exact hk_.1.1.1.1 | exact hk_.1.1.2.2 | exact hk_.1.2.2.1 | exact hk_.1.2.2.2 | exact hk_.1.1.1.1.2 | exact hk_.1.2.2.2.1 | exact hk_.1.2.2.2.2 | exact hk_))); have n6_ := Aside0.mk (Kd.R_mono (ok' := fun k_ => some k_ ≠ (.slice Ao38 t192.length co38 : Value).ownBlock ∧ some k_ ≠ (.slice Ao43 t199.length co43 : Value).ownBlock) (Kd.R_keptB (HO210.out) hkp (by intro k_ hk_ hs_; first | exact hk_.1.2 hs_ | exact hk_.2 hs_ | exact hk_.1.1 hs_ | exact hk_.1 hs_ | exact hk_.1.1.2 hs_ | exact hk_.1.2.1 hs_ | exact hk_.1.2.2 hs_ | exact hk_.2.1 hs_ | exact hk_.2.2 hs_ | exact hk_.1.1.1 hs_ | exact hk_.2.1.1 hs_ | exact hk_.2.1.2 hs_ | exact hk_.2.2.1 hs_ | exact hk_.2.2.2 hs_ | exact hk_.1.1.2.1 hs_ | exact hk_.1.1.1.2 hs_ | exact hk_.1.1.1.1 hs_ | exact hk_.1.1.2.2 hs_ | exact hk_.1.2.2.1 hs_ | exact hk_.1.2.2.2 hs_ | exact hk_.1.1.1.1.2 hs_ | exact hk_.1.2.2.2.1 hs_ | exact hk_.1.2.2.2.2 hs_ | exact hk_ hs_)) (by intro k_ hk_; (repeat' refine And.intro ?_ ?_) <;> (first | exact hk_.1.2 | exact hk_.2 | exact hk_.1.1 | exact hk_.1 | exact hk_.1.1.2 | exact hk_.1.2.1 | exact hk_.1.2.2 | exact hk_.2.1 | exact hk_.2.2 | exact hk_.1.1.1 | exact hk_.2.1.1 | exact hk_.2.1.2 | exact hk_.2.2.1 | exact hk_.2.2.2 | exact hk_.1.1.2.1 | exact hk_.1.1.1.2 | exact hk_.1.1.1.1 | exact hk_.1.1.2.2 | exact hk_.1.2.2.1 | exact hk_.1.2.2.2 | exact hk_.1.1.1.1.2 | exact hk_.1.2.2.2.1 | exact hk_.1.2.2.2.2 | exact hk_))); have n7_ := Aside0.mk (hb); clear BK190; clear HO194; clear HO197; clear HO201; clear BK202; clear HO205; clear HO210; clear HB; have BK190 := n0_; have HO194 := n1_; have HO197 := n2_; have HO201 := n3_; have BK202 := n4_; have HO205 := n5_; have HO210 := n6_; have HB := n7_; clear n0_ n1_ n2_ n3_ n4_ n5_ n6_ n7_; (try clear hb); (try clear hkp); (try clear hy0)) | (go_at_call 8; (with_reducible refine (laws_eqIntSS.calls k _ _ t203 _ _ t195 true _ ?side1 ?side2 ?side3 ?side4 A19.out).mono ?_); (case side1 => repeat (first | exact (Kd.S_reads' HO205.out).2.2 | (with_reducible refine Kd.C_alloc ?_ _) | (with_reducible refine Kd.C_drewN ?_ _) | (with_reducible refine Kd.C_drew ?_))); (case side2 => exact (Kd.S_reads' HO205.out).2.1); (case side3 => repeat (first | exact (Kd.S_reads' HO197.out).2.2 | (with_reducible refine Kd.C_alloc ?_ _) | (with_reducible refine Kd.C_drewN ?_ _) | (with_reducible refine Kd.C_drew ?_))); (case side4 => exact (Kd.S_reads' HO197.out).2.1); rintro e w' ⟨rfl, ⟨nd, rfl⟩⟩) | ((with_reducible refine gate_callee (f := 11) rfl ?_); refine goesL_ (some 64) rfl rfl Tryd.func11 (by kernel_rfl) rfl #[.slice Ao47 t203.length co47, .int .i64 1] rfl (by (try simp only [List.map_toArray, List.map_cons, List.map_nil]); first | done | rfl | (simp only [List.length_drop, List.length_take]; rfl)) ?_; (with_reducible refine (Apt.mark k (.slice Ao48 t195.length co48) (.slice Ao47 t203.length co47) t195 t203 1 t215 t903 w _ ?side1 ?side2 A21.out).mono ?_); (case side1 => repeat (first | (with_reducible first | exact HB.out | apply below_alloc | apply pw_below_drewN | apply below_drew1 | refine below_set ?_ GE190.out | refine below_set ?_ GE202.out) | exact HB.out)); (case side2 => (with_reducible repeat (first | apply Apt.alloc | apply Apt.drewN | apply Apt.drew)); exact HX.out); rintro e w54 ⟨rfl, hs1, hs2, hb, hkp⟩; refine ⟨_, rfl, ?_⟩; have n0_ := Aside0.mk (PT.blk (by (with_reducible repeat (first | refine blk_drewN ?_ _ | refine blk_drew ?_ | refine blk_alloc ?_ _)); exact BK190.out) hkp (by decide)); have n1_ := Aside0.mk (PT.row (by (with_reducible repeat (first | apply Kd.R_alloc | apply Kd.R_drewN | apply Kd.R_drew)); exact HO194.out) hkp (by decide)); have n2_ := Aside0.mk (PT.row (by (with_reducible repeat (first | apply Kd.R_alloc | apply Kd.R_drewN | apply Kd.R_drew)); exact HO201.out) hkp (by decide)); have n3_ := Aside0.mk (PT.blk (by (with_reducible repeat (first | refine blk_drewN ?_ _ | refine blk_drew ?_ | refine blk_alloc ?_ _)); exact BK202.out) hkp (by decide)); have n4_ := Aside0.mk (PT.row (by (with_reducible repeat (first | apply Kd.R_alloc | apply Kd.R_drewN | apply Kd.R_drew)); exact HO210.out) hkp (by decide)); clear BK190; clear HO194; clear HO197; clear HO201; clear BK202; clear HO205; clear HO210; clear HB; clear HX; have BK190 := n0_; have HO194 := n1_; have HO201 := n2_; have BK202 := n3_; have HO210 := n4_; have HO197 := Aside0.mk hs1; have HO205 := Aside0.mk hs2; have HB := Aside0.mk hb; clear n0_ n1_ n2_ n3_ n4_ hs1 hs2 hb hkp) | ((with_reducible refine gate_callee (f := 12) rfl ?_); refine goesL_ (some 67) rfl rfl Tryd.func12 (by kernel_rfl) rfl #[.slice Ao47 t203.length co47, .int .i64 1] rfl (by (try simp only [List.map_toArray, List.map_cons, List.map_nil]); first | done | rfl | (simp only [List.length_drop, List.length_take]; rfl)) ?_; (with_reducible refine (laws_heldIntSS.callsN k _ _ _ t903 1 t216 _ (Kd.S_reads' HO205.out).1 ?side1 ?side2 A22.out).mono ?_); (case side1 => repeat (first | exact (Kd.S_reads' HO205.out).2.2 | (with_reducible refine Kd.C_alloc ?_ _) | (with_reducible refine Kd.C_drewN ?_ _) | (with_reducible refine Kd.C_drew ?_))); (case side2 => exact (Kd.S_reads' HO205.out).2.1); rintro e w' ⟨rfl, ⟨nd, rfl⟩⟩; refine ⟨_, rfl, ?_⟩; have hcz55_0 : w54.cell? ⟨gb190, 0, none⟩ = some (.slice A0_0 l0_0.length c0_0) := (blk_cell BK190.out 0).trans rfl; have hfz55_0 := blk_frozen BK190.out 0) | ((with_reducible refine gate_callee (f := 6) rfl ?_); refine goesL_ (some 75) rfl rfl Tryd.func6 (by kernel_rfl) rfl #[.agg #[.slice A0_0 l0_0.length c0_0]] rfl (by (try simp only [List.map_toArray, List.map_cons, List.map_nil]); first | done | rfl | (simp only [List.length_drop, List.length_take]; rfl)) ?_; (with_reducible refine (laws_toLamps.calls k _ _ l0_0 t217 _ ?side1 ?side2 A25.out).mono ?_); (case side1 => repeat (first | exact (Kd.C_below HR0_0.out (by repeat (first | (with_reducible first | exact HB.out | apply below_alloc | apply pw_below_drewN | apply below_drew1 | refine below_set ?_ GE190.out | refine below_set ?_ GE202.out) | exact HB.out))) | (with_reducible refine Kd.C_alloc ?_ _) | (with_reducible refine Kd.C_drewN ?_ _) | (with_reducible refine Kd.C_drew ?_))); (case side2 => exact HC0_0.out); rintro e w56 ⟨v218, rfl, ho0, hb⟩; refine ⟨_, rfl, ?_⟩; have n0_ := Aside0.mk (Kd.R_elder' (by (with_reducible repeat (first | apply Kd.R_alloc | apply Kd.R_drewN | apply Kd.R_drew)); exact HO194.out) (Kd.R_base ho0) hb); have n1_ := Aside0.mk (Kd.S_below (by (with_reducible repeat (first | apply Kd.S_alloc | apply Kd.S_drewN | apply Kd.S_drew)); exact HO197.out) hb); have n2_ := Aside0.mk (Kd.R_elder' (by (with_reducible repeat (first | apply Kd.R_alloc | apply Kd.R_drewN | apply Kd.R_drew)); exact HO201.out) (Kd.R_base ho0) hb); have n3_ := Aside0.mk (Kd.S_below (by (with_reducible repeat (first | apply Kd.S_alloc | apply Kd.S_drewN | apply Kd.S_drew)); exact HO205.out) hb); have n4_ := Aside0.mk (Kd.R_elder' (by (with_reducible repeat (first | apply Kd.R_alloc | apply Kd.R_drewN | apply Kd.R_drew)); exact HO210.out) (Kd.R_base ho0) hb); have n5_ := Aside0.mk (Kd.R_lower (Kd.R_new' (Kd.R_new' (Kd.R_new' ho0 (Kd.R_lt (by (with_reducible repeat (first | apply Kd.R_alloc | apply Kd.R_drewN | apply Kd.R_drew)); exact HO194.out))) (Kd.R_lt (by (with_reducible repeat (first | apply Kd.R_alloc | apply Kd.R_drewN | apply Kd.R_drew)); exact HO201.out))) (Kd.R_lt (by (with_reducible repeat (first | apply Kd.R_alloc | apply Kd.R_drewN | apply Kd.R_drew)); exact HO210.out))) (below_size (by repeat (first | (with_reducible first | exact HB.out | apply below_alloc | apply pw_below_drewN | apply below_drew1 | refine below_set ?_ GE190.out | refine below_set ?_ GE202.out) | exact HB.out)))); have n6_ := Aside0.mk (blk_below (g := gb190) (o := .cells #[.slice A0_0 l0_0.length c0_0] 24 (0, 0)) (by (with_reducible repeat (first | refine blk_drewN ?_ _ | refine blk_drew ?_ | refine blk_alloc ?_ _)); exact BK190.out) hb); have n7_ := Aside0.mk (blk_below (g := gb202) (o := .cells #[.slice Ao43 t199.length co43] 29 (0, 0)) (by (with_reducible repeat (first | refine blk_drewN ?_ _ | refine blk_drew ?_ | refine blk_alloc ?_ _)); exact BK202.out) hb); have n8_ := Aside0.mk (below_step (by repeat (first | (with_reducible first | exact HB.out | apply below_alloc | apply pw_below_drewN | apply below_drew1 | refine below_set ?_ GE190.out | refine below_set ?_ GE202.out) | exact HB.out)) hb); clear HO194; clear HO197; clear HO201; clear HO205; clear HO210; clear BK190; clear BK202; clear HB; have HO194 := n0_; have HO197 := n1_; have HO201 := n2_; have HO205 := n3_; have HO210 := n4_; have HO219 := n5_; have BK190 := n6_; have BK202 := n7_; have HB := n8_; clear n0_ n1_ n2_ n3_ n4_ n5_ n6_ n7_ n8_; (try clear hb); (try clear hb2); (try clear hk); (try clear hi); (try clear ho0); obtain ⟨Ao57, co57, eo57⟩ := Kd.R_slice HO219.out; subst eo57) | ((with_reducible refine gate_callee (f := 7) rfl ?_); refine goesL_ (some 76) rfl rfl Tryd.func7 (by kernel_rfl) rfl #[.agg #[.slice Ao57 t217.length co57]] rfl (by (try simp only [List.map_toArray, List.map_cons, List.map_nil]); first | done | rfl | (simp only [List.length_drop, List.length_take]; rfl)) ?_; (with_reducible refine (impl_CyclesOfLamps.calls _ _ t217 t220 t223 _ ?side1 ?side2 A26.out).mono ?_); (case side1 => repeat (first | exact (Kd.R_reads' HO219.out).2.2 | (with_reducible refine Kd.C_alloc ?_ _) | (with_reducible refine Kd.C_drewN ?_ _) | (with_reducible refine Kd.C_drew ?_))); (case side2 => exact (Kd.R_reads' HO219.out).2.1); rintro e w58 ⟨v221, rfl, ho0, hb⟩; refine ⟨_, rfl, ?_⟩; have n0_ := Aside0.mk (Kd.R_below (by (with_reducible repeat (first | apply Kd.R_alloc | apply Kd.R_drewN | apply Kd.R_drew)); exact HO194.out) hb); have n1_ := Aside0.mk (Kd.S_elder' (by (with_reducible repeat (first | apply Kd.S_alloc | apply Kd.S_drewN | apply Kd.S_drew)); exact HO197.out) (Kd.S_base ho0) hb); have n2_ := Aside0.mk (Kd.R_below (by (with_reducible repeat (first | apply Kd.R_alloc | apply Kd.R_drewN | apply Kd.R_drew)); exact HO201.out) hb); have n3_ := Aside0.mk (Kd.S_elder' (by (with_reducible repeat (first | apply Kd.S_alloc | apply Kd.S_drewN | apply Kd.S_drew)); exact HO205.out) (Kd.S_base ho0) hb); have n4_ := Aside0.mk (Kd.R_below (by (with_reducible repeat (first | apply Kd.R_alloc | apply Kd.R_drewN | apply Kd.R_drew)); exact HO210.out) hb); have n5_ := Aside0.mk (Kd.R_below (by (with_reducible repeat (first | apply Kd.R_alloc | apply Kd.R_drewN | apply Kd.R_drew)); exact HO219.out) hb); have n6_ := Aside0.mk (Kd.S_lower (Kd.S_new' (Kd.S_new' ho0 (Kd.S_lt (by (with_reducible repeat (first | apply Kd.S_alloc | apply Kd.S_drewN | apply Kd.S_drew)); exact HO197.out))) (Kd.S_lt (by (with_reducible repeat (first | apply Kd.S_alloc | apply Kd.S_drewN | apply Kd.S_drew)); exact HO205.out))) (below_size (by repeat (first | (with_reducible first | exact HB.out | apply below_alloc | apply pw_below_drewN | apply below_drew1 | refine below_set ?_ GE190.out | refine below_set ?_ GE202.out) | exact HB.out)))); have n7_ := Aside0.mk (blk_below (g := gb190) (o := .cells #[.slice A0_0 l0_0.length c0_0] 24 (0, 0)) (by (with_reducible repeat (first | refine blk_drewN ?_ _ | refine blk_drew ?_ | refine blk_alloc ?_ _)); exact BK190.out) hb); have n8_ := Aside0.mk (blk_below (g := gb202) (o := .cells #[.slice Ao43 t199.length co43] 29 (0, 0)) (by (with_reducible repeat (first | refine blk_drewN ?_ _ | refine blk_drew ?_ | refine blk_alloc ?_ _)); exact BK202.out) hb); have n9_ := Aside0.mk (below_step (by repeat (first | (with_reducible first | exact HB.out | apply below_alloc | apply pw_below_drewN | apply below_drew1 | refine below_set ?_ GE190.out | refine below_set ?_ GE202.out) | exact HB.out)) hb); clear HO194; clear HO197; clear HO201; clear HO205; clear HO210; clear HO219; clear BK190; clear BK202; clear HB; have HO194 := n0_; have HO197 := n1_; have HO201 := n2_; have HO205 := n3_; have HO210 := n4_; have HO219 := n5_; have HO222 := n6_; have BK190 := n7_; have BK202 := n8_; have HB := n9_; clear n0_ n1_ n2_ n3_ n4_ n5_ n6_ n7_ n8_ n9_; (try clear hb); (try clear hb2); (try clear hk); (try clear hi); (try clear ho0); obtain ⟨Ao59, co59, eo59⟩ := Kd.S_slice HO222.out; subst eo59) | ((with_reducible refine gate_callee (f := 8) rfl ?_); refine goesL_ (some 81) rfl rfl Tryd.func8 (by kernel_rfl) rfl #[.slice Ao59 t220.length co59, .slice Ao48 t195.length co48] rfl (by (try simp only [List.map_toArray, List.map_cons, List.map_nil]); first | done | rfl | (simp only [List.length_drop, List.length_take]; rfl)) ?_; (with_reducible refine (laws_eqIntSS.calls k _ _ t220 _ _ t195 true _ ?side1 ?side2 ?side3 ?side4 A27.out).mono ?_); (case side1 => repeat (first | exact (Kd.S_reads' HO222.out).2.2 | (with_reducible refine Kd.C_alloc ?_ _) | (with_reducible refine Kd.C_drewN ?_ _) | (with_reducible refine Kd.C_drew ?_))); (case side2 => exact (Kd.S_reads' HO222.out).2.1); (case side3 => repeat (first | exact (Kd.S_reads' HO197.out).2.2 | (with_reducible refine Kd.C_alloc ?_ _) | (with_reducible refine Kd.C_drewN ?_ _) | (with_reducible refine Kd.C_drew ?_))); (case side4 => exact (Kd.S_reads' HO197.out).2.1); rintro e w' ⟨rfl, ⟨nd, rfl⟩⟩; refine ⟨_, rfl, ?_⟩) | ((with_reducible refine gate_callee (f := 12) rfl ?_); refine goesL_ (some 90) rfl rfl Tryd.func12 (by kernel_rfl) rfl #[.slice Ao47 t203.length co47, .int .i64 1] rfl (by (try simp only [List.map_toArray, List.map_cons, List.map_nil]); first | done | rfl | (simp only [List.length_drop, List.length_take]; rfl)) ?_; (with_reducible refine (laws_heldIntSS.callsN k _ _ _ t903 1 t225 _ (Kd.S_reads' HO205.out).1 ?side1 ?side2 A30.out).mono ?_); (case side1 => repeat (first | exact (Kd.S_reads' HO205.out).2.2 | (with_reducible refine Kd.C_alloc ?_ _) | (with_reducible refine Kd.C_drewN ?_ _) | (with_reducible refine Kd.C_drew ?_))); (case side2 => exact (Kd.S_reads' HO205.out).2.1); rintro e w' ⟨rfl, ⟨nd, rfl⟩⟩; refine ⟨_, rfl, ?_⟩))
             go_ret
             exact ⟨by first | rfl | (simp [errW_none, errW_some] <;> rfl) | (simp [*, errW_none, errW_some] <;> rfl), by repeat (first | (with_reducible first | exact HB.out | apply below_alloc | apply pw_below_drewN | apply below_drew1 | refine below_set ?_ GE190.out | refine below_set ?_ GE202.out) | exact HB.out)⟩
            ·rw [if_neg c32] at H
             exact absurd H (by simp)
         ·replace c28 := Bool.eq_false_iff.mpr c28
          subst c28
          have H1 : (none) = some r := by rw [if_neg (show ¬ (false = true) by decide)] at H; exact H
          clear H
          have H := H1
          clear H1
          exact absurd H (by simp)
        ·rw [if_neg c24] at H
         exact absurd H (by simp)
      ·replace c20 := Bool.eq_false_iff.mpr c20
       subst c20
       have H1 : (none) = some r := by rw [if_neg (show ¬ (false = true) by decide)] at H; exact H
       clear H
       have H := H1
       clear H1
       exact absurd H (by simp)
    ·replace c16 := Bool.eq_false_iff.mpr c16
     subst c16
     have H1 : (none) = some r := by rw [if_neg (show ¬ (false = true) by decide)] at H; exact H
     clear H
     have H := H1
     clear H1
     exact absurd H (by simp)
  ·replace c12 := Bool.eq_false_iff.mpr c12
   subst c12
   have H1 : (none) = some r := by rw [if_neg (show ¬ (false = true) by decide)] at H; exact H
   clear H
   have H := H1
   clear H1
   exact absurd H (by simp)

end Go.Proofs.YtafkcmohbgcknaaDoor.PCyc
