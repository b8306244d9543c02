/- The row of the law FnStatesHidden: for every input the law returns true and its arguments read as before; out of the pure statement and the walk. -/
import Derived.Test.YtpdkjehplfgjcabGreatDoorQWWords
import Derived.Deep.Slices
import Derived.ChangeArms
import Derived.ChangeSame
import Derived.Test.YtpdkjehplfgjcabGreatDoorQPHidx
import Derived.Test.YtpdkjehplfgjcabGreatDoorQEv
import Derived.Test.YtpdkjehplfgjcabGreatDoorQState
import Derived.Test.YtpdkjehplfgjcabGreatDoorQGray
import Derived.Test.YtpdkjehplfgjcabGreatDoorQMap
import Derived.Test.YtpdkjehplfgjcabGreatDoorCards
import Derived.Test.YtpdkjehplfgjcabGreatDoorTie
import Derived.LaidMore
import Derived.Lay
import Derived.SevenTiedAt
import Derived.Stop.Joined
import Derived.MakeChecks
import Derived.Test.YtpdkjehplfgjcabGreatDoorRows
import Derived.Test.YtpdkjehplfgjcabGreatDoorQPHidx20
import Derived.WalkKit
import Derived.ProofKit
import Derived.OpenShut
import Derived.ShutString
import Derived.ChangeOld
import Derived.Below
import Derived.SizedLaws
import Derived.Lib.SmallJoins
namespace Go.Proofs.YtpdkjehplfgjcabGreatDoor
open Go.RowKit Go.ChangeShapes Go.WideShapes Go.Proofs.YtpdkjehplfgjcabGreatDoorW.PrintWords
set_option linter.unusedVariables false
set_option linter.unusedSimpArgs false

/-- Whatever cells read as a datum of type t are the cells of a value of the kind d. -/
def Opens (P : Program) {α : Type} (d : Kd α) (t : TypeId) (ok : α → Prop) : Prop :=
  ∀ {H : Type} (enc : TypeId × Value → H) (W : World) (fuel : Nat) (cs : List Value) (x : DataW H × List MemPlace),
    DataW.trod enc P W 0 (fun _ => true) true fuel t cs = some x → ∃ a : α, d.K W a cs ∧ ok a

theorem opens_int {P : Program} {t : TypeId} {k : IntKind} (hu : P.underlying t = some (.int k)) : Opens P (Kd.int k) t (fun a => (Lit.int k a).wf = true) := by
  intro H enc W fuel cs x h
  obtain ⟨n, rfl, _, hw⟩ := DataW.trod_int hu h
  exact ⟨n, rfl, hw⟩
/-- A list of n things, each of which is chosen. -/
theorem list_choice {α : Type} {R : Nat → α → Prop} (n : Nat) (h : ∀ i, i < n → ∃ a, R i a) : ∃ l : List α, l.length = n ∧ ∀ i a, l[i]? = some a → R i a := by
  induction n with
  | zero => exact ⟨[], rfl, fun i a h => by simp at h⟩
  | succ n ih =>
    obtain ⟨l, hl, hr⟩ := ih (fun i hi => h i (by omega))
    obtain ⟨a, ha⟩ := h n (by omega)
    refine ⟨l ++ [a], by simp [hl], fun i b hb => ?_⟩
    rcases Nat.lt_trichotomy i n with hi | hi | hi
    · rw [List.getElem?_append_left (by omega)] at hb; exact hr i b hb
    · subst hi
      rw [← hl, List.getElem?_concat_length] at hb
      cases hb; exact ha
    · rw [List.getElem?_eq_none (by simp; omega)] at hb; cases hb
theorem opens_slice {P : Program} {t e : TypeId} {α : Type} {d : Kd α} {ok : α → Prop} (hu : P.underlying t = some (.slice e)) (hc : P.cellsOf e = d.sz) (h : Opens P d e ok) : Opens P (Kd.slice e d) t (fun l => ∀ a ∈ l, ok a) := by
  intro H enc W fuel cs x hx
  rcases Go.Deep.open_slice hu hx with ⟨rfl, _⟩ | ⟨a, len, cap, m, n, D, Pl, rfl, _, hl, hm, hmm, _, hi⟩
  · exact ⟨[], ⟨none, 0, rfl, Nat.le_refl _, rfl, by simp, fun h0 => by simp at h0⟩, by simp⟩
  · simp only [if_true] at hmm
    subst hmm
    obtain ⟨l, hll, hr⟩ := list_choice (R := fun i (b : α) => ok b ∧ ∃ c, c.length = d.sz ∧ d.K W b c ∧ ∀ j u, c[j]? = some u → W.cell? (a.add (i * d.sz + j)) = some u) len (fun i hi' => by
      obtain ⟨cs', hcs, ht⟩ := hi i (by omega)
      obtain ⟨b, hK, hok⟩ := h enc W _ _ _ ht
      obtain ⟨_, hcl, hat⟩ := World.cells?_some hcs
      refine ⟨b, hok, cs', d.K_len hK, hK, fun j u hu => ?_⟩
      have hjl : j < P.cellsOf e := by
        rw [← hcl]; exact (List.getElem?_eq_some_iff.1 hu).1
      have := hat j hjl
      rw [hc] at this
      rw [← Go.Deep.add_add, this]
      exact hu)
    subst hll
    refine ⟨l, ⟨some a, _, rfl, hl, rfl, Nat.le_trans hl (by simpa [maxLen] using hm), fun _ => ⟨a, rfl, fun j p hj => (hr j p hj).2⟩⟩, fun b hb => ?_⟩
    obtain ⟨i, hi'⟩ := List.getElem?_of_mem hb
    exact (hr i b hi').1
end Go.Proofs.YtpdkjehplfgjcabGreatDoor

namespace Go.Proofs.YtpdkjehplfgjcabGreatDoor.PHid
open Go.RowKit Go.Proofs.YtpdkjehplfgjcabGreatDoorW.PrintWords Go.Proofs.YtpdkjehplfgjcabGreatDoorW.PrintLast Go.Proofs.YtpdkjehplfgjcabGreatDoorW.PrintMore
set_option linter.unusedVariables false
set_option linter.unusedSimpArgs false
/-! ### after spec_pzGood -/
theorem pzGood_ev (r : Int) (l : List S40) (hl : l.length ≤ 9223372036854775807) : Ev (fun k => spec_pzGood.f k r l) (isPuzzleB r l) := by
  have hj : ∀ b : Bool, 0 ≤ r → Ev (fun k => spec_pzGood.j0 k b r l) (if b = true then false else !(l.any fun x => !clueB r x.f0 x.f1 x.f2)) := by
    intro b hr
    cases b
    · refine Ev.next (f := fun k => spec_pzGood.l0 k l (l.length : Int) 0 r l) ⟨0, fun k _ => by rw [spec_pzGood.j0]; simp⟩ ?_
      have := any_ev (fun k i => spec_pzGood.l0 k l (l.length : Int) i r l) l (fun x => !clueB r x.f0 x.f1 x.f2) false true (fun i h => ⟨1, fun k hk => by
        obtain ⟨k, rfl⟩ : ∃ m, k = m + 1 := ⟨k - 1, by omega⟩
        have e : rd_T40 l (i : Int) = l[i] := by simp [rd_T40, h]
        have ew : wrap64 ((i : Int) + 1) = ((i + 1 : Nat) : Int) := by rw [w64 (by omega) (by omega)]; omega
        rw [spec_pzGood.l0, if_pos (by omega), if_pos (by omega), if_pos (by omega), pzClue_eq _ _ _ _ _ hr, e, ew]
        simp only [Option.bind_some]
        cases clueB r l[i].f0 l[i].f1 l[i].f2 <;> simp⟩) (fun k => by rw [spec_pzGood.l0, if_neg (by omega)])
      cases h : l.any fun x => !clueB r x.f0 x.f1 x.f2 <;> simpa [h] using this
    · refine Ev.last fun k => ?_
      rw [spec_pzGood.j0]; simp
  have e1 : ∀ k, spec_pzGood.f k r l = if inB r 1 7 = true then spec_pzGood.j0 k (decide ((l.length : Int) > 6)) r l else spec_pzGood.j0 k true r l := by
    intro k
    simp only [spec_pzGood.f, spec_pzRings.f, spec_l1In.f, inB_ite, Option.bind_some]
  refine Ev.congr e1 ?_
  unfold isPuzzleB
  cases h : inB r 1 7
  · simp only [Bool.false_and, Bool.false_eq_true, if_false]
    refine Ev.last fun k => ?_
    rw [spec_pzGood.j0]; simp
  · simp only [if_true]
    have hr := inB_lo h
    have := hj (decide ((l.length : Int) > 6)) (by omega)
    have hc : (l.any fun x => !isClueB r x.f0 x.f1 x.f2) = l.any fun x => !clueB r x.f0 x.f1 x.f2 := by simp [isClueB, h]
    rw [hc]
    by_cases h6 : l.length ≤ 6
    · have hd : decide ((l.length : Int) > 6) = false := decide_eq_false (by omega)
      rw [hd] at this ⊢
      simpa [h6] using this
    · have hd : decide ((l.length : Int) > 6) = true := decide_eq_true (by omega)
      rw [hd] at this ⊢
      simpa [h6] using this

/-! ### after spec_pzWithout -/
theorem pzWithout_eq (l : List S40) (a : Int) (h0 : 0 ≤ a) (h1 : a < l.length) (hl : l.length ≤ 1048576) : spec_pzWithout.f l a = some (l.eraseIdx a.toNat) := by
  unfold spec_pzWithout.f
  have e : wrap64 (a + 1) = a + 1 := w64 (by omega) (by omega)
  have e2 : (a + 1).toNat = a.toNat + 1 := by omega
  simp only [Option.bind_some, e]
  rw [if_pos h0, if_pos (by omega), if_pos (by simp; omega), if_pos (by omega), if_pos (by omega), if_pos (by simp; omega), List.eraseIdx_eq_take_drop_succ, e2]
  rfl

/-! ### after impl_DropClue -/
theorem implDropClue_eq (r : Int) (l : List S40) (a : Int) (hl : l.length ≤ 1048576) : impl_DropClue.f r l a = some (if (isPuzzleB r l && inB a 0 (wrap64 (l.length - 1))) = true then (r, l.eraseIdx a.toNat, true) else (0, [], false)) := by
  simp only [impl_DropClue.f, impl_IsPuzzle.f, Option.bind_some, impl_in.f, inB_ite]
  cases h : isPuzzleB r l
  · simp
  · cases h2 : inB a 0 (wrap64 (l.length - 1))
    · simp
    · have h3 := inB_lo h2
      have h4 := inB_hi h2
      rw [w64 (by omega) (by omega)] at h4
      have e : wrap64 (a + 1) = a + 1 := w64 (by omega) (by omega)
      have hc : impl_Clue_56.f l = some l := if_pos (by omega)
      have hd : impl_Clue_82.f l a (a + 1) = some (l.eraseIdx a.toNat) := if_pos ⟨h3, rfl, by omega⟩
      simp [impl_Puzzle_without.f, hc, hd, e]

/-! ### after spec_DropClue -/
theorem specDropClue_ev (r : Int) (l : List S40) (a : Int) (hl : l.length ≤ 1048576) : Ev (fun k => spec_DropClue.f k r l a) (if (isPuzzleB r l && inB a 0 (wrap64 (l.length - 1))) = true then (r, l.eraseIdx a.toNat, true) else (0, [], false)) := by
  obtain ⟨K, hK⟩ := pzGood_ev r l (by omega)
  refine ⟨K, fun k hk => ?_⟩
  simp only [spec_DropClue.f, hK k hk, Option.bind_some, spec_l1In.f, inB_ite]
  cases h : isPuzzleB r l
  · simp
  · cases h2 : inB a 0 (wrap64 (l.length - 1))
    · simp
    · have h3 := inB_lo h2
      have h4 := inB_hi h2
      rw [w64 (by omega) (by omega)] at h4
      simp [pzWithout_eq l a h3 (by omega) hl]

/-! ### after impl_AddClue -/
theorem implAddClue_ev (r : Int) (l : List S40) (a b c : Int) (hl : l.length ≤ 1048576) : Ev (fun k => impl_AddClue.f k r l a b c) (if (isPuzzleB r l && isClueB r a b c && decide (l.length < 6)) = true then (r, l ++ [⟨a, b, c⟩], true) else (0, [], false)) := by
  refine ⟨1, fun k hk => ?_⟩
  obtain ⟨k, rfl⟩ : ∃ m, k = m + 1 := ⟨k - 1, by omega⟩
  simp only [impl_AddClue.f, impl_IsPuzzle.f, Option.bind_some, implClue_eq]
  cases h : isPuzzleB r l
  · simp
  · cases h2 : isClueB r a b c
    · simp
    · have hc : impl_Clue_56.f l = some l := if_pos (by omega)
      by_cases h6 : l.length < 6
      · simp only [if_true]
        rw [if_neg (by omega), hc]
        simp only [Option.bind_some, List.length_singleton]
        rw [if_pos (by omega)]
        simp [h6]
      · simp only [if_true]
        rw [if_pos (by omega)]
        simp [h6]

/-! ### after spec_AddClue -/
theorem specAddClue_ev (r : Int) (l : List S40) (a b c : Int) (hl : l.length ≤ 1048576) : Ev (fun k => spec_AddClue.f k r l a b c) (if (isPuzzleB r l && isClueB r a b c && decide (l.length < 6)) = true then (r, l ++ [⟨a, b, c⟩], true) else (0, [], false)) := by
  obtain ⟨K, hK⟩ := pzGood_ev r l (by omega)
  refine ⟨K + 1, fun k hk => ?_⟩
  simp only [spec_AddClue.f, hK k (by omega), Option.bind_some]
  obtain ⟨k, rfl⟩ : ∃ m, k = m + 1 := ⟨k - 1, by omega⟩
  cases h : isPuzzleB r l
  · simp
  · have hr : inB r 1 7 = true := by
      simp only [isPuzzleB, Bool.and_eq_true] at h; exact h.1.1
    have hl6 : l.length ≤ 6 := by
      simp only [isPuzzleB, Bool.and_eq_true, decide_eq_true_eq] at h; exact h.1.2
    have h0 := inB_lo hr
    simp only [if_true, pzClue_eq _ _ _ _ _ (by omega : 0 ≤ r), Option.bind_some, isClueB, hr, Bool.true_and]
    cases h2 : clueB r a b c
    · simp
    · by_cases h6 : l.length < 6
      · simp only [if_true]
        rw [if_neg (by omega)]
        rw [if_pos (by simp; omega), if_pos (by simp; omega)]
        simp [h6]
      · simp only [if_true]
        rw [if_pos (by omega)]
        simp [h6]

/-! ### after spec_l1Cur_next -/
/-- What is drawn from: bytes, not too many. -/
def okL (l : List Int) : Prop := l.length ≤ 1048576 ∧ ∀ a ∈ l, 0 ≤ a ∧ a ≤ 255
theorem rd_ok {l : List Int} (h : okL l) (i : Int) (h0 : 0 ≤ i) (h1 : i < (l.length : Int)) : 0 ≤ rd l i ∧ rd l i ≤ 255 := by
  have hn : i.toNat < l.length := by omega
  have e : rd l i = l[i.toNat] := by simp [rd, hn]
  rw [e]; exact h.2 _ (List.getElem_mem hn)
theorem and_255 (x : Int) : 0 ≤ wrap64 (Go.bits .and .u64 x 255) ∧ wrap64 (Go.bits .and .u64 x 255) ≤ 255 := by
  have e : Go.bits .and .u64 x 255 = IntKind.u64.wrap (((BitVec.ofInt IntKind.u64.bits x).toNat &&& 255 : Nat) : Int) := by
    simp only [Go.bits, BitVec.toNat_and]
    rfl
  have h : (BitVec.ofInt IntKind.u64.bits x).toNat &&& 255 ≤ 255 := Nat.and_le_right
  rw [e]
  generalize (BitVec.ofInt IntKind.u64.bits x).toNat &&& 255 = n at h
  have e2 : IntKind.u64.wrap (n : Int) = (n : Int) := by
    simp only [IntKind.wrap, IntKind.bits, IntKind.signed]
    simp
    omega
  rw [e2, w64 (by omega) (by omega)]
  omega
theorem next_ok {l : List Int} (h : okL l) (p s : Int) (h0 : 0 ≤ p) (h1 : p ≤ 4611686018427387904) : ∃ b s', spec_l1Cur_next.f l p s = some (b, p + 1, s') ∧ 0 ≤ b ∧ b ≤ 255 := by
  have ew : wrap64 (p + 1) = p + 1 := w64 (by omega) (by omega)
  unfold spec_l1Cur_next.f
  rw [ew]
  by_cases c : p < (l.length : Int)
  · obtain ⟨r0, r1⟩ := rd_ok h p h0 c
    have er : wrap64 (rd l p) = rd l p := w64 (by omega) (by omega)
    rw [if_pos c, if_pos h0, er]
    split
    · exact ⟨_, _, rfl, r0, r1⟩
    · exact ⟨_, _, rfl, (and_255 _).1, (and_255 _).2⟩
  · rw [if_neg c]
    split
    · exact ⟨_, _, rfl, by omega, by omega⟩
    · exact ⟨_, _, rfl, (and_255 _).1, (and_255 _).2⟩

/-! ### after spec_l1Cur_pick -/
theorem pick_ok {l : List Int} (h : okL l) (p s n : Int) (h0 : 0 ≤ p) (h1 : p ≤ 2305843009213693952) : ∃ x p' s', spec_l1Cur_pick.f l p s n = some (x, p', s') ∧ 0 ≤ x ∧ (x < n ∨ x = 0) ∧ p ≤ p' ∧ p' ≤ p + 2 := by
  unfold spec_l1Cur_pick.f
  by_cases c : n ≤ 1
  · rw [if_pos c]; exact ⟨0, p, s, rfl, by omega, .inr rfl, by omega, by omega⟩
  · obtain ⟨b, s1, e1, b0, b1⟩ := next_ok h p s h0 (by omega)
    rw [if_neg c, e1, Option.bind_some]
    by_cases c2 : n > 200
    · obtain ⟨b2, s2, e2, b3, b4⟩ := next_ok h (p + 1) s1 (by omega) (by omega)
      rw [if_pos c2]
      dsimp only
      rw [e2, Option.bind_some, if_neg (by omega)]
      dsimp only
      rw [w64 (a := b * 256) (by omega) (by omega), w64 (by omega) (by omega)]
      exact ⟨_, _, _, rfl, Int.tmod_nonneg _ (by omega), .inl (Int.tmod_lt_of_pos _ (by omega)), by omega, by omega⟩
    · rw [if_neg c2, if_neg (by omega)]
      exact ⟨_, _, _, rfl, Int.tmod_nonneg _ b0, .inl (Int.tmod_lt_of_pos _ (by omega)), by dsimp only; omega, by dsimp only; omega⟩

/-! ### after spec_l1Cur_one -/
theorem one_ok {l : List Int} (h : okL l) (p s n : Int) (h0 : 0 ≤ p) (h1 : p ≤ 2305843009213693952) : ∃ x p' s', spec_l1Cur_one.f l p s n = some (x, p', s') ∧ p ≤ p' ∧ p' ≤ p + 2 := by
  obtain ⟨x, p', s', e, _, _, h2, h3⟩ := pick_ok h p s n h0 h1
  exact ⟨_, p', s', by rw [spec_l1Cur_one.f, e, Option.bind_some], h2, h3⟩

/-! ### after spec_l1Cur_of -/
theorem of_ok {l : List Int} (h : okL l) (p s : Int) (L : List ByteArray) (B : Nat) (hL : ∀ t ∈ L, t.size ≤ B) (hn : L ≠ []) (h0 : 0 ≤ p) (h1 : p ≤ 2305843009213693952) : ∃ t p' s', spec_l1Cur_of.f l p s L = some (t, p', s') ∧ t.size ≤ B ∧ p ≤ p' ∧ p' ≤ p + 2 := by
  obtain ⟨x, p', s', e, x0, x1, h2, h3⟩ := pick_ok h p s (L.length : Int) h0 h1
  have hp := List.length_pos_iff.2 hn
  have hx : x.toNat < L.length := by omega
  refine ⟨rdOf ByteArray.empty L x, p', s', ?_, ?_, h2, h3⟩
  · rw [spec_l1Cur_of.f, e, Option.bind_some, if_pos x0, if_pos (by dsimp only; omega)]
  · have er : rdOf ByteArray.empty L x = L[x.toNat] := by simp [rdOf, hx]
    rw [er]; exact hL _ (List.getElem_mem hx)

/-! ### after spec_l1Cur_among -/
theorem among_ok {l : List Int} (h : okL l) (p s : Int) (L : List Int) (hn : L ≠ []) (h0 : 0 ≤ p) (h1 : p ≤ 2305843009213693952) : ∃ t p' s', spec_l1Cur_among.f l p s L = some (t, p', s') ∧ p ≤ p' ∧ p' ≤ p + 2 := by
  obtain ⟨x, p', s', e, x0, x1, h2, h3⟩ := pick_ok h p s (L.length : Int) h0 h1
  have hp := List.length_pos_iff.2 hn
  refine ⟨rd L x, p', s', ?_, h2, h3⟩
  rw [spec_l1Cur_among.f, e, Option.bind_some, if_pos x0, if_pos (by dsimp only; omega)]

/-! ### after spec_riGood -/
theorem riGood_ev (s : ByteArray) : Ev (fun k => spec_riGood.f k s) (stateB s) := by
  have e1 : ∀ k, spec_riGood.f k s = if inB (s.size : Int) 1 20 = true then spec_riGood.l0 k s 0 else some false := by
    intro k
    simp only [spec_riGood.f, spec_l1In.f, inB_ite, Option.bind_some]
  refine Ev.congr e1 ?_
  unfold stateB
  cases h : inB (s.size : Int) 1 20
  · exact Ev.now _
  · have hs : s.size ≤ 20 := by have := inB_hi h; omega
    have hz : s.size = s.data.toList.length := Lib.size_eq s
    have := any_ev (fun k i => spec_riGood.l0 k s i) s.data.toList (fun b => !isBit b) false true (fun i hi => ⟨1, fun k hk => by
      obtain ⟨k, rfl⟩ : ∃ m, k = m + 1 := ⟨k - 1, by omega⟩
      have ew : wrap64 ((i : Int) + 1) = ((i + 1 : Nat) : Int) := by rw [w64 (by omega) (by omega)]; omega
      have eb := bt_nat s i hi
      rw [spec_riGood.l0, if_pos (by omega), if_pos (by omega), eb, ew]
      have q8 := byte_toInt s.data.toList[i] 48 (by omega)
      have q9 := byte_toInt s.data.toList[i] 49 (by omega)
      simp only [Int.cast_ofNat_Int] at q8 q9
      simp only [q8, q9, isBit]
      generalize s.data.toList[i] = b
      by_cases c8 : b = 48
      · simp [c8]
      · by_cases c9 : b = 49
        · simp [c9]
        · simp [c8, c9]⟩) (fun k => by rw [spec_riGood.l0, if_neg (by omega)])
    have ha : (!(s.data.toList.any fun b => !isBit b)) = s.data.toList.all isBit := by simp [List.all_eq_not_any_not]
    simp only [Bool.true_and, if_true]
    rw [← ha]
    cases hq : s.data.toList.any fun b => !isBit b <;> simpa [hq] using this

/-! ### after impl_IsState -/
theorem isState_eq (s : ByteArray) (h : s.size ≤ 9223372036854775807) : impl_IsState.f s = some (stateB s) := by
  have ht : strings_Trim.f s (⟨#[48, 49]⟩ : ByteArray) = some ⟨(Lib.trimS s.data.toList [48, 49]).toArray⟩ := by
    unfold strings_Trim.f
    rw [if_pos ⟨h, by decide, by decide⟩]
  simp only [impl_IsState.f, impl_in.f, inB_ite, Option.bind_some, ht, trimS_beq, isBit_contains, stateB]
  cases inB (s.size : Int) 1 20 <;> simp

/-! ### after spec_riOn -/
theorem riOn_l0 (s : ByteArray) (hs : s.size ≤ 1048576) : ∀ (n i : Nat) (acc : Nat), i + n = s.data.toList.length → acc ≤ i →
    Ev (fun k => spec_riOn.l0 k s (acc : Int) (i : Int)) ((acc + (s.data.toList.drop i).count 49 : Nat) : Int) := by
  have hz : s.size = s.data.toList.length := Lib.size_eq s
  intro n
  induction n with
  | zero =>
    intro i acc hi ha
    refine Ev.last fun k => ?_
    rw [spec_riOn.l0, if_neg (by omega), List.drop_of_length_le (by omega)]
    simp
  | succ n ih =>
    intro i acc hi ha
    have hi' : i < s.data.toList.length := by omega
    have eb := bt_nat s i hi'
    have q9 := byte_toInt s.data.toList[i] 49 (by omega)
    simp only [Int.cast_ofNat_Int] at q9
    have ew : wrap64 ((i : Int) + 1) = ((i + 1 : Nat) : Int) := by rw [w64 (by omega) (by omega)]; omega
    have ea : wrap64 ((acc : Int) + 1) = ((acc + 1 : Nat) : Int) := by rw [w64 (by omega) (by omega)]; omega
    have hd : s.data.toList.drop i = s.data.toList[i] :: s.data.toList.drop (i + 1) := (List.getElem_cons_drop hi').symm
    by_cases c : s.data.toList[i] = 49
    · have := ih (i + 1) (acc + 1) (by omega) (by omega)
      refine Ev.next (f := fun k => spec_riOn.l0 k s ((acc + 1 : Nat) : Int) ((i + 1 : Nat) : Int)) ⟨0, fun k _ => ?_⟩ ?_
      · rw [spec_riOn.l0, if_pos (by omega), if_pos (by omega), eb, if_pos (q9.mpr c), ew, ea]
      · rw [hd, c, List.count_cons_self]
        have e : acc + 1 + List.count 49 (List.drop (i + 1) s.data.toList) = acc + (List.count 49 (List.drop (i + 1) s.data.toList) + 1) := by omega
        rw [← e]; exact this
    · have := ih (i + 1) acc (by omega) (by omega)
      refine Ev.next (f := fun k => spec_riOn.l0 k s (acc : Int) ((i + 1 : Nat) : Int)) ⟨0, fun k _ => ?_⟩ ?_
      · rw [spec_riOn.l0, if_pos (by omega), if_pos (by omega), eb, if_neg (fun x => c (q9.mp x)), ew]
      · rw [hd, List.count_cons_of_ne (by exact c)]; exact this
theorem riOn_ev (s : ByteArray) (hs : s.size ≤ 1048576) : Ev (fun k => spec_riOn.f k s) (onN s : Int) := by
  have := riOn_l0 s hs s.data.toList.length 0 0 (by omega) (by omega)
  have h2 : Ev (fun k => spec_riOn.l0 k s 0 0) (onN s : Int) := by simpa [onN] using this
  exact h2

/-! ### after impl_CountOn -/
theorem countOn_eq (s : ByteArray) (h : s.size ≤ 1048576) (hst : stateB s = true) : impl_CountOn.f s = some ((onN s : Int), true) := by
  have hc : strings_Count.f s (⟨#[49]⟩ : ByteArray) = some (onN s : Int) := by
    unfold strings_Count.f
    rw [if_pos (by decide)]
    rfl
  simp only [impl_CountOn.f, isState_eq s (by omega), hst, Option.bind_some, hc, if_true]

/-! ### after impl_canMove -/
theorem canMove_eq (s : ByteArray) (a : Int) (h : s.size ≤ 1048576) (hst : s.data.toList.all isBit = true) : impl_canMove.f s a = some (canB s a) := by
  have hz : s.size = s.data.toList.length := Lib.size_eq s
  unfold canB
  by_cases h0 : a = 0
  · simp [impl_canMove.f, h0]
  · have ew : wrap64 ((s.size : Int) - 1) = (s.size : Int) - 1 := w64 (by omega) (by omega)
    simp only [impl_canMove.f, impl_in.f, inB_ite, Option.bind_some, ew, if_neg h0]
    cases hb : inB a 1 ((s.size : Int) - 1)
    · simp [h0]
    · have h1 := inB_lo hb
      have h2 := inB_hi hb
      have ea : wrap64 (a - 1) = a - 1 := w64 (by omega) (by omega)
      rw [ea, if_pos rfl, if_pos (by omega), if_pos (by omega), if_pos (show a - 1 ≤ (s.size : Int) by omega)]
      by_cases h49 : bt s (a - 1) = 49
      · have hx : (s.extract 0 (a - 1).toNat).size ≤ 9223372036854775807 := by
          rw [Lib.size_eq, extract_toNat, List.length_take]; omega
        have ht : strings_Trim.f (s.extract 0 (a - 1).toNat) (⟨#[48]⟩ : ByteArray) = some ⟨(Lib.trimS (s.data.toList.take (a - 1).toNat) [48]).toArray⟩ := by
          unfold strings_Trim.f
          rw [if_pos ⟨hx, by decide, by decide⟩, extract_toNat]
        rw [if_pos h49, ht]
        simp only [Option.bind_some, trimS_beq]
        congr 1
        have hall : ∀ b ∈ s.data.toList.take (a - 1).toNat, isBit b = true := fun b hb => List.all_eq_true.1 hst b (List.mem_of_mem_take hb)
        generalize s.data.toList.take (a - 1).toNat = l at hall
        simp only [h0, decide_false, Bool.false_or, h49, decide_true, Bool.true_and]
        induction l with
        | nil => rfl
        | cons b l ih =>
          have hb1 := hall b (by simp)
          have ih' := ih (fun x hx => hall x (by simp [hx]))
          simp only [isBit, Bool.or_eq_true, beq_iff_eq] at hb1
          rcases hb1 with rfl | rfl
          · simpa using ih'
          · simp
      · simp [h49, h0]

/-! ### after spec_riCan -/
theorem riCan_ev (s : ByteArray) (a : Int) (h : s.size ≤ 1048576) : Ev (fun k => spec_riCan.f k s a) (decide (a = 0) || inB a 1 ((s.size : Int) - 1) && decide (bt s (a - 1) = 49) && decide ((s.data.toList.take (a - 1).toNat).count 49 = 0)) := by
  have hz : s.size = s.data.toList.length := Lib.size_eq s
  by_cases h0 : a = 0
  · exact ⟨0, fun k _ => by simp [spec_riCan.f, h0]⟩
  · have ew : wrap64 ((s.size : Int) - 1) = (s.size : Int) - 1 := w64 (by omega) (by omega)
    cases hb : inB a 1 ((s.size : Int) - 1)
    · exact ⟨0, fun k _ => by simp [spec_riCan.f, h0, spec_l1In.f, inB_ite, ew, hb]⟩
    · have h1 := inB_lo hb
      have h2 := inB_hi hb
      have ea : wrap64 (a - 1) = a - 1 := w64 (by omega) (by omega)
      by_cases h49 : bt s (a - 1) = 49
      · have hx : (s.extract 0 (a - 1).toNat).size ≤ 1048576 := by
          rw [Lib.size_eq, extract_toNat, List.length_take]; omega
        obtain ⟨K, hK⟩ := riOn_ev (s.extract 0 (a - 1).toNat) hx
        refine ⟨K, fun k hk => ?_⟩
        simp only [spec_riCan.f, if_neg h0, spec_l1In.f, inB_ite, ew, hb, Option.bind_some, if_true, ea]
        rw [if_pos (by omega), if_pos (by omega), if_pos h49, if_pos (by omega), show spec_riOn.f k (s.extract 0 (a - 1).toNat) = _ from hK k hk]
        simp only [Option.bind_some, onN, extract_toNat, h0, h49, decide_true, decide_false, Bool.false_or, Bool.true_and]
        congr 1
        rw [Bool.eq_iff_iff]
        simp
      · refine ⟨0, fun k _ => ?_⟩
        simp only [spec_riCan.f, if_neg h0, spec_l1In.f, inB_ite, ew, hb, Option.bind_some, if_true, ea]
        rw [if_pos (by omega), if_pos (by omega), if_neg h49]
        simp [h0, h49]

/-! ### after impl_IsClue -/
theorem pzClueA_eq (n : Nat) (r k a b : Int) (h : 0 ≤ r) : spec_pzClue.f (n + 1) r k a b = some (clueB r k a b) := by
  simp only [spec_pzClue.f, spec_pzClue.j0, spec_l1In.f, inB_ite, Option.bind_some, and_some, clueB]
  by_cases h0 : k = 0
  · simp [h0]
  · by_cases h4 : k = 4
    · simp [h4]
    · by_cases h1 : k = 1
      · simp [h1]
      · by_cases h2 : k = 2
        · simp [h2]
        · by_cases h3 : k = 3
          · simp [h3, h]
          · simp [h0, h1, h2, h3, h4]
theorem implClueA_j0 (k : Nat) (a b : Int) (t : Bool) (c d e : Int) : impl_IsClue.j0 k a b t c d e = spec_pzClue.j0 k a b t c d e := by
  cases k with
  | zero => rfl
  | succ k => rfl
theorem implClueA_eq (n : Nat) (r k a b : Int) : impl_IsClue.f (n + 1) r k a b = some (isClueB r k a b) := by
  simp only [impl_IsClue.f, impl_in.f, inB_ite, Option.bind_some, isClueB, implClueA_j0]
  cases h : inB r 1 7
  · rfl
  · have := pzClueA_eq n r k a b (by have := inB_lo h; omega)
    simp only [spec_pzClue.f] at this
    simp [this]

/-! ### after impl_Clue_told -/
theorem riCan_evB (s : ByteArray) (a : Int) (h : s.size ≤ 1048576) : Ev (fun k => spec_riCan.f k s a) (canB s a) := riCan_ev s a h
def numChk (l : List UInt8) : Bool :=
  match impl_number.f 12 ⟨l.toArray⟩, spec_riNumber.f 12 ⟨l.toArray⟩ with
  | some a, some b => a == b && decide (0 ≤ a) && decide (a < 128)
  | _, _ => false
theorem num_all : ((List.range 8).all fun n => (allS n).all numChk) = true := by decide +kernel
def numB (s : ByteArray) : Int := (impl_number.f 12 s).getD 0
theorem numB_ev (s : ByteArray) (hs : s.size ≤ 7) (hb : s.data.toList.all isBit = true) : 0 ≤ numB s ∧ numB s < 128 ∧ (∀ k, 12 ≤ k → impl_number.f k s = some (numB s)) ∧ Ev (fun k => spec_riNumber.f k s) (numB s) := by
  have hz : s.size = s.data.toList.length := Lib.size_eq s
  have h1 := List.all_eq_true.1 num_all s.data.toList.length (List.mem_range.2 (by omega))
  have h2 := List.all_eq_true.1 h1 _ (mem_allS _ hb)
  have e : (⟨s.data.toList.toArray⟩ : ByteArray) = s := by simp
  unfold numChk at h2
  rw [e] at h2
  unfold numB
  split at h2
  · rename_i a b ha hb'
    simp only [Bool.and_eq_true, beq_iff_eq, decide_eq_true_eq] at h2
    obtain ⟨⟨rfl, h3⟩, h4⟩ := h2
    rw [ha]
    exact ⟨h3, h4, fun k hk => at_rounds (impl_number.mono s) hk ha, Ev.of (spec_riNumber.mono s) hb'⟩
  · cases h2
/-- What a clue of a kind tells of a state. -/
def valB (k a : Int) (s : ByteArray) : Int := if k = 0 then (bt s a - 48) % 256 else if k = 1 then (onN s : Int) else if k = 2 then Int.tmod (numB s) a else if k = 3 then (if numB s - a > a - numB s then numB s - a else a - numB s) else (if canB s a = true then 1 else 0)
def fitsB (k a b : Int) (s : ByteArray) : Bool := if k = 1 then valB 1 0 s == a else valB k a s == b
theorem pzValue_ev (k a : Int) (s : ByteArray) (hs : s.size ≤ 7) (hb : s.data.toList.all isBit = true) (ha : okArg s.size k a) : Ev (fun n => spec_pzValue.f n k a s) (valB k a s) := by
  obtain ⟨n0, n1, _, K, hn⟩ := numB_ev s hs hb
  obtain ⟨K2, h2⟩ := riOn_ev s (by omega)
  obtain ⟨K3, h3⟩ := riCan_evB s a (by omega)
  unfold valB
  unfold okArg at ha
  refine ⟨K + K2 + K3, fun n hk => ?_⟩
  have hn := hn n (by omega)
  have h2 := h2 n (by omega)
  have h3 := h3 n (by omega)
  simp only at hn h2 h3
  by_cases c0 : k = 0
  · subst c0
    simp only [true_or, if_true] at ha
    simp only [spec_pzValue.f, if_true]
    rw [if_pos (by omega), if_pos (by omega)]
  · by_cases c1 : k = 1
    · subst c1
      simp [spec_pzValue.f, h2]
    · by_cases c2 : k = 2
      · subst c2
        simp only [show ¬ ((2 : Int) = 0 ∨ (2 : Int) = 4) by decide, if_false, if_true] at ha
        have : ¬ a = 0 := by omega
        simp [spec_pzValue.f, hn, this]
      · by_cases c3 : k = 3
        · subst c3
          simp only [show ¬ ((3 : Int) = 0 ∨ (3 : Int) = 4) by decide, show ¬ ((3 : Int) = 2) by decide, if_false, if_true] at ha
          have e1 : wrap64 (numB s - a) = numB s - a := w64 (by omega) (by omega)
          have e2 : wrap64 (-(numB s - a)) = a - numB s := by rw [w64 (by omega) (by omega)]; omega
          simp only [spec_pzValue.f, hn, c0, c1, c2, if_false, if_true, Option.bind_some, spec_l1Abs.f, spec_l1Most.f, e1, e2]
          split <;> rfl
        · simp only [spec_pzValue.f, c0, c1, c2, c3, if_false, h3, Option.bind_some]
          cases canB s a <;> rfl
theorem told_ev (k a b : Int) (s : ByteArray) (hs : s.size ≤ 7) (hst : stateB s = true) (ha : okArg s.size k a) (h4 : 0 ≤ k ∧ k ≤ 4) : ∀ n, 12 ≤ n → impl_Clue_told.f n k a b s = some (k, if k = 1 then valB 1 0 s else a, if k = 1 then 0 else valB k a s) := by
  have hb : s.data.toList.all isBit = true := by unfold stateB at hst; simp only [Bool.and_eq_true] at hst; exact hst.2
  obtain ⟨n0, n1, hn, _⟩ := numB_ev s hs hb
  have h2 := countOn_eq s (by omega) hst
  have h3 := canMove_eq s a (by omega) hb
  unfold valB
  unfold okArg at ha
  intro n hk
  have hn := hn n hk
  by_cases c0 : k = 0
  · subst c0
    simp only [true_or, if_true] at ha
    simp only [impl_Clue_told.f, if_true, impl_Clue_told_S1.f]
    rw [if_pos (by omega), if_pos (by omega)]
    have hz : s.size = s.data.toList.length := Lib.size_eq s
    obtain ⟨i, rfl⟩ : ∃ i : Nat, a = i := ⟨a.toNat, by omega⟩
    have hi : i < s.data.toList.length := by omega
    have hbi := List.all_eq_true.1 hb _ (List.getElem_mem hi)
    rw [bt_nat s i hi]
    simp only [isBit, Bool.or_eq_true, beq_iff_eq] at hbi
    rcases hbi with e | e <;> rw [e] <;> rfl
  · by_cases c1 : k = 1
    · subst c1
      simp [impl_Clue_told.f, h2]
    · by_cases c2 : k = 2
      · subst c2
        simp only [show ¬ ((2 : Int) = 0 ∨ (2 : Int) = 4) by decide, if_false, if_true] at ha
        have : ¬ a = 0 := by omega
        simp [impl_Clue_told.f, hn, this]
      · by_cases c3 : k = 3
        · subst c3
          simp only [show ¬ ((3 : Int) = 0 ∨ (3 : Int) = 4) by decide, show ¬ ((3 : Int) = 2) by decide, if_false, if_true] at ha
          have e1 : wrap64 (numB s - a) = numB s - a := w64 (by omega) (by omega)
          have e2 : wrap64 (a - numB s) = a - numB s := w64 (by omega) (by omega)
          simp only [impl_Clue_told.f, hn, c0, c1, c2, if_false, if_true, Option.bind_some, impl_apart.f, e1, e2, mx]
          congr 3
          split <;> split <;> omega
        · have c4 : k = 4 := by omega
          simp only [impl_Clue_told.f, c0, c1, c2, c3, c4, if_false, if_true, h3, Option.bind_some, impl_Clue_told_S1.f]
          cases canB s a <;> rfl

/-! ### after impl_Clue_fits -/
theorem fits_12 (k a b : Int) (s : ByteArray) (hs : s.size ≤ 7) (hst : stateB s = true) (hc : clueB s.size k a b = true) :
    Ev (fun n => spec_pzFits.f n k a b s) (fitsB k a b s) ∧ ∀ n, 12 ≤ n → impl_Clue_fits.f n k a b s = some (fitsB k a b s) := by
  have hb := stateB_bits hst
  have h1 : 1 ≤ (s.size : Int) := by unfold stateB at hst; simp only [Bool.and_eq_true] at hst; exact inB_lo hst.1
  obtain ⟨ha, hk0, hk4, hk1⟩ := okArg_of h1 (by omega) hc
  have ht := told_ev k a b s hs hst ha ⟨hk0, hk4⟩
  unfold fitsB
  by_cases c1 : k = 1
  · subst c1
    obtain ⟨K2, hv⟩ := pzValue_ev 1 0 s hs hb (by simp [okArg])
    refine ⟨⟨K2, fun n hn => ?_⟩, fun n hn => ?_⟩
    · have := hv n hn
      simp only at this
      simp [spec_pzFits.f, this]
    · have := ht n hn
      simp only [if_true] at this
      have e := hk1 rfl
      subst e
      simp [impl_Clue_fits.f, this]
  · obtain ⟨K2, hv⟩ := pzValue_ev k a s hs hb ha
    refine ⟨⟨K2, fun n hn => ?_⟩, fun n hn => ?_⟩
    · have := hv n hn
      simp only at this
      simp [spec_pzFits.f, this, c1]
    · have := ht n hn
      simp only [if_neg c1] at this
      simp [impl_Clue_fits.f, this, c1]
/-! ### after spec_pzHidden -/
theorem pzHidden_ev (s : ByteArray) : Ev (fun k => spec_pzHidden.f k s) (hiddenB s) := by
  obtain ⟨K, h⟩ := riGood_ev s
  refine ⟨K, fun k hk => ?_⟩
  have := h k hk
  simp only at this
  simp only [spec_pzHidden.f, this, Option.bind_some, hiddenB]
  cases stateB s
  · rfl
  · simp only [if_true, Bool.true_and]
    congr 1
    rw [Bool.eq_iff_iff]
    simp
    omega

/-! ### after impl_isHidden -/
theorem isHidden_eq (s : ByteArray) (h : s.size ≤ 9223372036854775807) : impl_isHidden.f s = some (hiddenB s) := by
  simp only [impl_isHidden.f, isState_eq s h, Option.bind_some, hiddenB]
  cases stateB s
  · rfl
  · simp only [if_true, Bool.true_and]
    congr 1
    rw [Bool.eq_iff_iff]
    simp
    omega

/-! ### after impl_fitting -/
def stS (r : Int) (n : Nat) : ByteArray := (spec_riState.f 40 r n).getD ⟨#[]⟩
def stChk (r n : Nat) : Bool :=
  match impl_state.f 40 r n, spec_riState.f 40 r n with
  | some a, some b => a.data.toList == b.data.toList && stateB a && a.size == r
  | _, _ => false
theorem st_all : ((List.range 8).all fun r => r == 0 || (List.range (2 ^ r)).all fun n => stChk r n) = true := by decide +kernel
theorem st_of (r n : Nat) (h1 : 1 ≤ r) (h7 : r ≤ 7) (hn : n < 2 ^ r) : (∀ k, 40 ≤ k → impl_state.f k r n = some (stS r n)) ∧ (∀ k, 40 ≤ k → spec_riState.f k r n = some (stS r n)) ∧ stateB (stS r n) = true ∧ (stS r n).size = r := by
  have h := List.all_eq_true.1 st_all r (List.mem_range.2 (by omega))
  simp only [Bool.or_eq_true, beq_iff_eq] at h
  have h := List.all_eq_true.1 (h.resolve_left (by omega)) n (List.mem_range.2 hn)
  unfold stChk at h
  unfold stS
  split at h
  · rename_i a b ha hb
    simp only [Bool.and_eq_true, beq_iff_eq] at h
    obtain ⟨⟨e, hs⟩, hz⟩ := h
    have e2 : a = b := by
      have : a.data = b.data := Array.toList_inj.1 e
      cases a; cases b; simp_all
    subst e2
    rw [hb]
    exact ⟨fun k hk => at_rounds (impl_state.mono r n) hk ha, fun k hk => at_rounds (spec_riState.mono r n) hk hb, hs, hz⟩
  · cases h
theorem shl_pow (r : Nat) (h1 : 1 ≤ r) (h7 : r ≤ 7) : shl .i64 1 (r : Int) = ((2 ^ r : Nat) : Int) := by
  have : r = 1 ∨ r = 2 ∨ r = 3 ∨ r = 4 ∨ r = 5 ∨ r = 6 ∨ r = 7 := by omega
  rcases this with rfl | rfl | rfl | rfl | rfl | rfl | rfl <;> decide +kernel
def fitP (r : Int) (l : List S40) (n : Nat) : Bool := l.all fun x => fitsB x.f0 x.f1 x.f2 (stS r n)
/-- The states that fit all of some clues, by their numbers. -/
def solB (r : Int) (l : List S40) : List ByteArray := ((List.range (2 ^ r.toNat)).filter (fitP r l)).map (stS r)
theorem puzzle_of {r : Int} {l : List S40} (h : isPuzzleB r l = true) : 1 ≤ r ∧ r ≤ 7 ∧ l.length ≤ 6 ∧ ∀ x ∈ l, clueB r x.f0 x.f1 x.f2 = true := by
  unfold isPuzzleB at h
  simp only [Bool.and_eq_true, decide_eq_true_eq, Bool.not_eq_true', List.any_eq_false] at h
  refine ⟨inB_lo h.1.1, inB_hi h.1.1, h.1.2, fun x hx => ?_⟩
  have := h.2 x hx
  simp only [isClueB, h.1.1, Bool.true_and, Bool.not_eq_true', Bool.not_eq_false] at this
  exact this
theorem takeN_eq (r n : Nat) (l : List S40) (h1 : 1 ≤ r) (h7 : r ≤ 7) (hn : n < 2 ^ r) (hl : ∀ x ∈ l, clueB r x.f0 x.f1 x.f2 = true) : takeN r l n = some (fitP r l n) := by
  obtain ⟨ha, _, hs, hz⟩ := st_of r n h1 h7 hn
  unfold takeN
  rw [ha 40 (Nat.le_refl _), Option.bind_some]
  have hf : ∀ x ∈ l, impl_Clue_fits.f 40 x.f0 x.f1 x.f2 (stS r n) = some (fitsB x.f0 x.f1 x.f2 (stS r n)) := fun x hx =>
    (fits_12 x.f0 x.f1 x.f2 (stS r n) (by omega) hs (by rw [hz]; exact hl x hx)).2 40 (by omega)
  unfold fitAll
  rw [if_pos (List.all_eq_true.2 fun x hx => by rw [hf x hx]; rfl)]
  congr 1
  unfold fitP
  rw [List.all_eq_not_any_not]
  congr 1
  rw [Bool.eq_iff_iff, List.any_eq_true, List.any_eq_true]
  constructor
  · rintro ⟨x, hx, h⟩
    exact ⟨x, hx, by rw [hf x hx] at h; exact h⟩
  · rintro ⟨x, hx, h⟩
    exact ⟨x, hx, by rw [hf x hx]; exact h⟩
theorem with_l0 (T : Int → Option Bool) (p : Nat → Bool) (r N : Nat) (st : Nat → ByteArray) (hN : N ≤ 128) (hT : ∀ i, i < N → T i = some (p i)) (hst : ∀ i, i < N → ∀ k, 40 ≤ k → impl_state.f k r i = some (st i)) :
    ∀ (m n : Nat) (acc : List ByteArray) (k : Nat), n + m = N → m + 41 ≤ k → acc.length ≤ n → impl_withNumbers.l0 T k r acc N n = some (acc ++ ((List.range' n m).filter p).map st) := by
  intro m
  induction m with
  | zero =>
    intro n acc k hn hk ha
    obtain ⟨k, rfl⟩ : ∃ j, k = j + 1 := ⟨k - 1, by omega⟩
    rw [impl_withNumbers.l0, if_neg (by omega)]
    simp
  | succ m ih =>
    intro n acc k hn hk ha
    obtain ⟨k, rfl⟩ : ∃ j, k = j + 1 := ⟨k - 1, by omega⟩
    have ew : wrap64 ((n : Int) + 1) = ((n + 1 : Nat) : Int) := by rw [w64 (by omega) (by omega)]; omega
    rw [impl_withNumbers.l0, if_pos (by omega), hT n (by omega), Option.bind_some, ew, List.range'_succ, List.filter_cons]
    cases hp : p n
    · simp only [Bool.false_eq_true, if_false]
      exact ih (n + 1) acc k (by omega) (by omega) (by omega)
    · simp only [if_true]
      rw [hst n (by omega) k (by omega), Option.bind_some, if_pos (by omega)]
      rw [ih (n + 1) (acc ++ [st n]) k (by omega) (by omega) (by simp; omega)]
      simp
theorem fitting_eq (r : Int) (l : List S40) (h : isPuzzleB r l = true) : impl_fitting.f r l = some (solB r l) := by
  obtain ⟨h1, h7, hl, hc⟩ := puzzle_of h
  obtain ⟨n, rfl⟩ : ∃ n : Nat, r = n := ⟨r.toNat, by omega⟩
  have hp : 2 ^ n ≤ 2 ^ 7 := Nat.pow_le_pow_right (by omega) (by omega)
  have e := with_l0 (takeN n l) (fitP n l) n (2 ^ n) (stS n) (by omega) (fun i hi => takeN_eq n i l (by omega) (by omega) hi hc) (fun i hi => (st_of n i (by omega) (by omega) hi).1) (2 ^ n) 0 [] 200 (by omega) (by omega) (by simp)
  unfold impl_fitting.f impl_withNumbers.f
  rw [if_pos (by omega), shl_pow n (by omega) (by omega)]
  have e' : impl_withNumbers.l0 (takeN n l) 200 n [] ((2 ^ n : Nat) : Int) 0 = _ := e
  rw [e']
  simp [solB, List.range_eq_range']
theorem solB_length (r : Int) (l : List S40) : (solB r l).length ≤ 2 ^ r.toNat := by
  unfold solB
  rw [List.length_map]
  exact Nat.le_trans (List.length_filter_le _ _) (by simp)

/-! ### after impl_Puzzle_solutions -/
theorem solutions_eq (r : Int) (l : List S40) (h : isPuzzleB r l = true) : impl_Puzzle_solutions.f r l = some (solB r l) := by
  simp [impl_Puzzle_solutions.f, fitting_eq r l h]

/-! ### after impl_fitting -/
theorem pzAll_l1 (r : Int) (l : List S40) (acc : List ByteArray) (n : Int) (s : ByteArray) (hl : l.length ≤ 6) (p : S40 → Bool) (hp : ∀ x ∈ l, Ev (fun k => spec_pzFits.f k x.f0 x.f1 x.f2 s) (p x)) (hacc : acc.length ≤ 128) (R : List ByteArray) :
    ∀ (m i : Nat) (fl : Bool), i + m = l.length → Ev (fun k => if (fl && (l.drop i).all p) = true then spec_pzAll.l0 k r l (acc ++ [s]) (wrap64 (n + 1)) else spec_pzAll.l0 k r l acc (wrap64 (n + 1))) R → Ev (fun k => spec_pzAll.l1 k r l acc n s fl l (l.length : Int) (i : Int)) R := by
  intro m
  induction m with
  | zero =>
    intro i fl hi h
    refine Ev.next ⟨0, fun k _ => ?_⟩ h
    rw [spec_pzAll.l1, if_neg (by omega), List.drop_of_length_le (by omega)]
    cases fl
    · simp
    · rw [if_pos rfl, if_pos (by omega)]
      simp
  | succ m ih =>
    intro i fl hi h
    have hi' : i < l.length := by omega
    have ew : wrap64 ((i : Int) + 1) = ((i + 1 : Nat) : Int) := by rw [w64 (by omega) (by omega)]; omega
    have e : rd_T40 l (i : Int) = l[i] := by simp [rd_T40, hi']
    have hd : l.drop i = l[i] :: l.drop (i + 1) := (List.getElem_cons_drop hi').symm
    rw [hd, List.all_cons] at h
    obtain ⟨K, hK⟩ := hp l[i] (List.getElem_mem hi')
    cases fl with
    | true =>
      refine Ev.next (f := fun k => spec_pzAll.l1 k r l acc n s (p l[i]) l (l.length : Int) ((i + 1 : Nat) : Int)) ⟨K, fun k hk => ?_⟩ (ih (i + 1) (p l[i]) (by omega) (by simpa using h))
      have := hK k hk
      simp only at this
      rw [spec_pzAll.l1, if_pos (by omega), if_pos (by omega), if_pos (by omega), if_pos rfl, e, this, Option.bind_some, ew]
    | false =>
      refine Ev.next (f := fun k => spec_pzAll.l1 k r l acc n s false l (l.length : Int) ((i + 1 : Nat) : Int)) ⟨0, fun k hk => ?_⟩ (ih (i + 1) false (by omega) (by simpa using h))
      rw [spec_pzAll.l1, if_pos (by omega), if_pos (by omega), if_pos (by omega), if_neg (by simp), ew]
theorem pzAll_l0 (r : Nat) (l : List S40) (h1 : 1 ≤ r) (h7 : r ≤ 7) (hl : l.length ≤ 6) (hc : ∀ x ∈ l, clueB r x.f0 x.f1 x.f2 = true) :
    ∀ (m n : Nat) (acc : List ByteArray), n + m = 2 ^ r → acc.length ≤ n → Ev (fun k => spec_pzAll.l0 k r l acc n) (acc ++ ((List.range' n m).filter (fitP r l)).map (stS r)) := by
  have hp : 2 ^ r ≤ 2 ^ 7 := Nat.pow_le_pow_right (by omega) (by omega)
  intro m
  induction m with
  | zero =>
    intro n acc hn ha
    refine Ev.last fun k => ?_
    rw [spec_pzAll.l0, if_pos (by omega), shl_pow r h1 h7, if_neg (by omega)]
    simp
  | succ m ih =>
    intro n acc hn ha
    have ew : wrap64 ((n : Int) + 1) = ((n + 1 : Nat) : Int) := by rw [w64 (by omega) (by omega)]; omega
    obtain ⟨_, hs, hb, hz⟩ := st_of r n h1 h7 (by omega)
    refine Ev.next (f := fun k => spec_pzAll.l1 k r l acc n (stS r n) true l (l.length : Int) ((0 : Nat) : Int)) ⟨40, fun k hk => ?_⟩ ?_
    · rw [spec_pzAll.l0, if_pos (by omega), shl_pow r h1 h7, if_pos (by omega), hs k hk, Option.bind_some]
      rfl
    · refine pzAll_l1 r l acc n (stS r n) hl (fun x => fitsB x.f0 x.f1 x.f2 (stS r n)) (fun x hx => (fits_12 x.f0 x.f1 x.f2 (stS r n) (by omega) hb (by rw [hz]; exact hc x hx)).1) (by omega) _ l.length 0 true (by omega) ?_
      rw [ew, List.range'_succ, List.filter_cons]
      simp only [List.drop_zero, Bool.true_and]
      show Ev (fun k => if fitP r l n = true then _ else _) _
      cases hq : fitP r l n
      · simp only [Bool.false_eq_true, if_false]
        exact ih (n + 1) acc (by omega) (by omega)
      · simp only [if_true]
        have := ih (n + 1) (acc ++ [stS r n]) (by omega) (by simp; omega)
        simpa using this
theorem pzAll_ev (r : Int) (l : List S40) (h : isPuzzleB r l = true) : Ev (fun k => spec_pzAll.f k r l) (solB r l) := by
  obtain ⟨h1, h7, hl, hc⟩ := puzzle_of h
  obtain ⟨n, rfl⟩ : ∃ n : Nat, r = n := ⟨r.toNat, by omega⟩
  have := pzAll_l0 n l (by omega) (by omega) hl hc (2 ^ n) 0 [] (by omega) (by simp)
  have e : Ev (fun k => spec_pzAll.l0 k n l [] 0) (solB n l) := by simpa [solB, List.range_eq_range'] using this
  exact e

/-! ### after laws_xTexts -/
theorem xTexts_ev (l : List ByteArray) (hl : l.length ≤ 9223372036854775806) : Ev (fun k => laws_xTexts.f k l l) true := by
  have key : ∀ (d i : Nat), i + d = l.length → Ev (fun k => laws_xTexts.l0 k l l (l.length : Int) (i : Int)) true := by
    intro d
    induction d with
    | zero => intro i hi; exact Ev.last fun k => by rw [laws_xTexts.l0, if_neg (by omega)]
    | succ d ih =>
      intro i hi
      refine Ev.next ⟨0, fun k _ => ?_⟩ (ih (i + 1) (by omega))
      rw [laws_xTexts.l0, if_pos (by omega), if_pos (by omega), if_pos (by omega), if_pos (by omega), if_pos rfl, w64 (by omega) (by omega)]
      rfl
  obtain ⟨K, hK⟩ := key l.length 0 (by omega)
  exact ⟨K, fun k hk => by simp only [laws_xTexts.f, if_true]; exact hK k hk⟩

/-! ### after laws_xText -/
theorem toList_iff (x y : ByteArray) : x.toList = y.toList ↔ x = y := by
  constructor
  · intro h
    rw [Lib.toList_data, Lib.toList_data] at h
    exact ByteArray.ext (Array.toList_inj.1 h)
  · intro h; rw [h]
theorem xText_ev (l : List ByteArray) (s : ByteArray) (hl : l.length ≤ 9223372036854775806) : Ev (fun k => laws_xText.f k l s) (decide (s ∈ l)) := by
  have key : ∀ (d i : Nat), i + d = l.length → Ev (fun k => laws_xText.l0 k s l (l.length : Int) (i : Int)) (decide (s ∈ l.drop i)) := by
    intro d
    induction d with
    | zero =>
      intro i hi
      rw [List.drop_of_length_le (by omega)]
      exact Ev.last fun k => by rw [laws_xText.l0, if_neg (by omega)]; rfl
    | succ d ih =>
      intro i hi
      have hlt : i < l.length := by omega
      have er : rdOf ByteArray.empty l (i : Int) = l[i] := by simp [rdOf, hlt]
      rw [List.drop_eq_getElem_cons hlt]
      by_cases c : l[i] = s
      · have e : decide (s ∈ l[i] :: l.drop (i + 1)) = true := decide_eq_true (by rw [c]; exact List.mem_cons_self)
        rw [e]
        exact Ev.last fun k => by rw [laws_xText.l0, if_pos (by omega), if_pos (by omega), if_pos (by omega), er, if_pos ((toList_iff _ _).2 c)]
      · have e : decide (s ∈ l[i] :: l.drop (i + 1)) = decide (s ∈ l.drop (i + 1)) := by
          rw [decide_eq_decide, List.mem_cons]
          exact ⟨fun h => h.resolve_left (fun h' => c h'.symm), .inr⟩
        rw [e]
        refine Ev.next ⟨0, fun k _ => ?_⟩ (ih (i + 1) (by omega))
        rw [laws_xText.l0, if_pos (by omega), if_pos (by omega), if_pos (by omega), er, if_neg (fun h => c ((toList_iff _ _).1 h)), w64 (by omega) (by omega)]
        rfl
  have := key l.length 0 (by omega)
  rwa [List.drop_zero] at this

/-! ### after impl_bits -/
/-- A state as a number, ring k being worth 2 to the power k. -/
def bitN : List UInt8 → Nat
  | [] => 0
  | b :: t => (b.toNat - 48) + 2 * bitN t
theorem bitN_lt : ∀ s : List UInt8, s.all isBit = true → bitN s < 2 ^ s.length
  | [], _ => by simp [bitN]
  | b :: t, h => by
    rw [List.all_cons, Bool.and_eq_true] at h
    have := bitN_lt t h.2
    rw [bitN, List.length_cons, Nat.pow_succ]
    rcases bit_cases h.1 with rfl | rfl
    · show (48 - 48) + 2 * bitN t < _; omega
    · show (49 - 48) + 2 * bitN t < _; omega
theorem pow20 {n : Nat} (h : n ≤ 20) : 2 ^ n ≤ 1048576 := Nat.le_trans (Nat.pow_le_pow_right (by omega) h) (by decide)
theorem pow2_le {a b : Nat} (h : a ≤ b) : 2 ^ a ≤ 2 ^ b := Nat.pow_le_pow_right (by omega) h
theorem bits_l0 (s : ByteArray) (hs : s.size ≤ 20) (hb : s.data.toList.all isBit = true) : ∀ i : Nat, i ≤ s.data.toList.length → Ev (fun k => impl_bits.l0 k s (bitN (s.data.toList.drop i) : Int) ((i : Int) - 1)) (bitN s.data.toList : Int)
  | 0, _ => Ev.last fun k => by rw [impl_bits.l0, if_neg (by omega), List.drop_zero]
  | i + 1, h => by
    have hz := Lib.size_eq s
    have hlt : i < s.data.toList.length := by omega
    have hall : ∀ x ∈ s.data.toList.drop i, isBit x = true := fun x hx => List.all_eq_true.1 hb x (List.mem_of_mem_drop hx)
    have hl := bitN_lt (s.data.toList.drop i) (List.all_eq_true.2 hall)
    have hp := pow20 (n := (s.data.toList.drop i).length) (by rw [List.length_drop]; omega)
    have hd := List.drop_eq_getElem_cons hlt
    have e : bitN (s.data.toList.drop i) = (s.data.toList[i].toNat - 48) + 2 * bitN (s.data.toList.drop (i + 1)) := by rw [hd, bitN]
    have hbit := hall s.data.toList[i] (by rw [hd]; exact List.mem_cons_self)
    have eb := bt_nat s i hlt
    have ei : ((i + 1 : Nat) : Int) - 1 = (i : Int) := by omega
    refine Ev.next ⟨0, fun k _ => ?_⟩ (bits_l0 s hs hb i (by omega))
    rw [impl_bits.l0, ei, if_pos (by omega), if_pos (by omega), if_pos (by omega), eb, e]
    have h48 : 48 ≤ s.data.toList[i].toNat ∧ s.data.toList[i].toNat ≤ 49 := by
      rcases bit_cases hbit with h | h <;> rw [h] <;> decide
    rw [w64 (a := 2 * (bitN (s.data.toList.drop (i + 1)) : Int)) (by omega) (by omega), w64 (by omega) (by omega), w64 (by omega) (by omega)]
    congr 1
    omega
theorem bits_ev (s : ByteArray) (hs : s.size ≤ 20) (hb : s.data.toList.all isBit = true) : Ev (fun k => impl_bits.f k s) (bitN s.data.toList : Int) := by
  have hz := Lib.size_eq s
  obtain ⟨K, hK⟩ := bits_l0 s hs hb s.data.toList.length (Nat.le_refl _)
  refine ⟨K, fun k hk => ?_⟩
  have := hK k hk
  rw [List.drop_length] at this
  unfold impl_bits.f
  rw [hz, w64 (by omega) (by omega)]
  exact this

/-! ### after impl_unreflected -/
def unR : Nat → Nat → Nat
  | 0, _ => 0
  | f + 1, g => g ^^^ unR f (g / 2)
theorem unR_zero : ∀ f, unR f 0 = 0
  | 0 => rfl
  | f + 1 => by rw [unR, Nat.zero_div, unR_zero f]; rfl
theorem unR_half : ∀ (f g : Nat), g < 2 ^ (f + 1) → unR (f + 1) g / 2 = unR f (g / 2)
  | 0, g, h => by
    have : g < 2 := by simpa using h
    simp only [unR, Nat.xor_zero]; omega
  | f + 1, g, h => by
    rw [Nat.pow_succ] at h
    rw [unR, Nat.xor_div_two, unR_half f (g / 2) (by omega), unR]
theorem unR_fix : ∀ (f g : Nat), g < 2 ^ f → g ^^^ (unR f g / 2) = unR f g
  | 0, g, h => by
    have : g = 0 := by simpa using h
    subst this; rfl
  | f + 1, g, h => by rw [unR_half f g h, unR]
theorem xor_i64 (a b : Nat) (ha : a < 4611686018427387904) (hb : b < 4611686018427387904) : Go.bits .xor .i64 (a : Int) (b : Int) = ((a ^^^ b : Nat) : Int) := by
  have ha' : a % 2 ^ IntKind.i64.bits = a := Nat.mod_eq_of_lt (Nat.lt_of_lt_of_le ha (by decide))
  have hb' : b % 2 ^ IntKind.i64.bits = b := Nat.mod_eq_of_lt (Nat.lt_of_lt_of_le hb (by decide))
  have hx : a ^^^ b < 2 ^ 62 := Nat.xor_lt_two_pow (by simpa using ha) (by simpa using hb)
  simp only [Go.bits, BitVec.ofInt_natCast, BitVec.toNat_xor, BitVec.toNat_ofNat, ha', hb']
  have e62 : (2 : Nat) ^ 62 = 4611686018427387904 := by decide
  rw [i64_w, w64 (by omega) (by omega)]
theorem unref_l0 : ∀ (f g n : Nat), f ≤ 40 → g < 2 ^ f → n < 2 ^ 40 → Ev (fun k => impl_unreflected.l0 k (g : Int) (n : Int)) ((n ^^^ unR f g : Nat) : Int)
  | 0, g, n, _, hg, _ => by
    have : g = 0 := by simpa using hg
    subst this
    refine Ev.last fun k => ?_
    rw [impl_unreflected.l0, if_neg (by omega), unR, Nat.xor_zero]
  | f + 1, g, n, hf, hg, hn => by
    have h1 := pow2_le hf
    have e40 : (2 : Nat) ^ 40 = 1099511627776 := by decide
    by_cases c : g = 0
    · subst c
      refine Ev.last fun k => ?_
      rw [impl_unreflected.l0, if_neg (by omega), unR_zero, Nat.xor_zero]
    · have hx : n ^^^ g < 2 ^ 40 := Nat.xor_lt_two_pow hn (by omega)
      have e : n ^^^ unR (f + 1) g = (n ^^^ g) ^^^ unR f (g / 2) := by rw [unR, Nat.xor_assoc]
      rw [e]
      have hg2 : g / 2 < 2 ^ f := by rw [Nat.pow_succ] at hg; omega
      refine Ev.next ⟨0, fun k _ => ?_⟩ (unref_l0 f (g / 2) (n ^^^ g) (by omega) hg2 hx)
      have et : Int.tdiv (g : Int) 2 = ((g / 2 : Nat) : Int) := rfl
      rw [impl_unreflected.l0, if_pos (by omega), xor_i64 n g (by omega) (by omega), et, w64 (by omega) (by omega)]

/-! ### after impl_number -/
theorem unR_grN : ∀ s : List UInt8, s.all isBit = true → unR s.length (bitN s) = grN s
  | [], _ => rfl
  | b :: t, h => by
    rw [List.all_cons, Bool.and_eq_true] at h
    have ih := unR_grN t h.2
    have hl := bitN_lt t h.2
    have hf := unR_fix t.length (bitN t) hl
    rw [ih] at hf
    have hb : b.toNat - 48 < 2 ∧ (b.toNat - 48) % 2 = b.toNat % 2 := by
      rcases bit_cases h.1 with rfl | rfl <;> decide
    have e1 : bitN (b :: t) / 2 = bitN t := by rw [bitN]; omega
    have e2 : bitN (b :: t) % 2 = b.toNat % 2 := by rw [bitN]; omega
    rw [List.length_cons, unR, e1, ih]
    show bitN (b :: t) ^^^ grN t = 2 * grN t + (b.toNat + grN t) % 2
    have d : (bitN (b :: t) ^^^ grN t) / 2 = grN t := by rw [Nat.xor_div_two, e1, hf]
    have m : (bitN (b :: t) ^^^ grN t) % 2 = (b.toNat + grN t) % 2 := by
      have q := @Nat.xor_mod_two_eq_one (bitN (b :: t)) (grN t)
      generalize (bitN (b :: t) ^^^ grN t) = x at q ⊢
      generalize bitN (b :: t) = y at q e2
      generalize grN t = z at q ⊢
      by_cases c1 : y % 2 = 1
      · by_cases c2 : z % 2 = 1
        · have : ¬ x % 2 = 1 := fun h => q.1 h ⟨fun _ => c2, fun _ => c1⟩
          omega
        · have : x % 2 = 1 := q.2 (fun h => c2 (h.1 c1))
          omega
      · by_cases c2 : z % 2 = 1
        · have : x % 2 = 1 := q.2 (fun h => c1 (h.2 c2))
          omega
        · have : ¬ x % 2 = 1 := fun h => q.1 h ⟨fun h => absurd h c1, fun h => absurd h c2⟩
          omega
    omega
theorem state_facts {s : ByteArray} (h : stateB s = true) : 1 ≤ s.size ∧ s.size ≤ 20 ∧ s.data.toList.all isBit = true ∧ s.data.toList.length = s.size := by
  simp only [stateB, Bool.and_eq_true] at h
  have h1 := inB_lo h.1
  have h2 := inB_hi h.1
  exact ⟨by omega, by omega, h.2, (Lib.size_eq s).symm⟩
theorem number_ev {s : ByteArray} (h : stateB s = true) : Ev (fun k => impl_number.f k s) (grN s.data.toList : Int) := by
  obtain ⟨h1, h2, h3, h4⟩ := state_facts h
  obtain ⟨K1, e1⟩ := bits_ev s h2 h3
  have hl := bitN_lt s.data.toList h3
  obtain ⟨K2, e2⟩ := unref_l0 s.data.toList.length (bitN s.data.toList) 0 (by omega) hl (by decide)
  refine ⟨K1 + K2, fun k hk => ?_⟩
  have e1 := e1 k (by omega)
  have e2 := e2 k (by omega)
  simp only at e1 e2
  rw [Nat.zero_xor, unR_grN _ h3] at e2
  dsimp only
  rw [impl_number.f, e1, Option.bind_some]
  unfold impl_unreflected.f
  have e0 : ((0 : Nat) : Int) = 0 := rfl
  rw [e0] at e2
  rw [e2]
  rfl

/-! ### after spec_riNumber -/
/-! ### after impl_Solutions -/
def solsR (r : Int) (l : List S40) : List ByteArray × Bool := if isPuzzleB r l = true then (solB r l, true) else ([], false)
theorem implSolutions_eq (r : Int) (l : List S40) : impl_Solutions.f r l = some (solsR r l) := by
  unfold solsR
  cases h : isPuzzleB r l
  · simp [impl_Solutions.f, impl_IsPuzzle.f, h]
  · simp [impl_Solutions.f, impl_IsPuzzle.f, h, solutions_eq r l h]

/-! ### after spec_pzSolved -/
theorem pzSolved_ev (r : Int) (l : List S40) (h : isPuzzleB r l = true) : Ev (fun k => spec_pzSolved.f k r l) (decide ((solB r l).length = 1)) := by
  obtain ⟨K2, h2⟩ := pzAll_ev r l h
  refine ⟨K2, fun k hk => ?_⟩
  have h2 := h2 k (by omega)
  simp only at h2
  simp only [spec_pzSolved.f, h2, Option.bind_some]
  congr 1
  rw [Bool.eq_iff_iff]
  simp
  omega

/-! ### after impl_IsSolved -/
def isSolvedR (r : Int) (l : List S40) : Bool × Bool := if isPuzzleB r l = true then (decide ((solB r l).length = 1), true) else (false, false)
theorem implIsSolved_eq (r : Int) (l : List S40) : impl_IsSolved.f r l = some (isSolvedR r l) := by
  unfold isSolvedR
  simp only [impl_IsSolved.f, implSolutions_eq, Option.bind_some, solsR]
  cases h : isPuzzleB r l
  · simp
  · simp only [if_true]
    congr 2
    rw [Bool.eq_iff_iff]
    simp
    omega

/-! ### after impl_Puzzle_without -/
theorem without_eq (r : Int) (l : List S40) (a : Int) (h3 : 0 ≤ a) (h4 : a < l.length) (hl : l.length ≤ 1048576) : impl_Puzzle_without.f r l a = some (r, l.eraseIdx a.toNat) := by
  have e : wrap64 (a + 1) = a + 1 := w64 (by omega) (by omega)
  have hc : impl_Clue_56.f l = some l := if_pos (by omega)
  have hd : impl_Clue_82.f l a (a + 1) = some (l.eraseIdx a.toNat) := if_pos ⟨h3, rfl, by omega⟩
  simp [impl_Puzzle_without.f, hc, hd, e]
theorem puzzle_erase {r : Int} {l : List S40} (h : isPuzzleB r l = true) (i : Nat) : isPuzzleB r (l.eraseIdx i) = true := by
  have hl := (puzzle_of h).2.2.1
  have hle := List.length_eraseIdx_le l i
  unfold isPuzzleB at h ⊢
  simp only [Bool.and_eq_true, decide_eq_true_eq, Bool.not_eq_true', List.any_eq_false] at h ⊢
  exact ⟨⟨h.1.1, by omega⟩, fun x hx => h.2 x (List.mem_of_mem_eraseIdx hx)⟩

/-! ### after impl_NeedlessClues -/
def needP (r : Int) (l : List S40) (i : Nat) : Bool := decide ((solB r (l.eraseIdx i)).length = (solB r l).length)
def needR (r : Int) (l : List S40) : List Int × Bool := if isPuzzleB r l = true then (((List.range' 0 l.length).filter (needP r l)).map (fun i : Nat => (i : Int)), true) else ([], false)

/-! ### after impl_NeedlessClues -/
theorem implNeed_l0 (r : Int) (l : List S40) (h : isPuzzleB r l = true) : ∀ (m i : Nat) (acc : List Int), i + m = l.length → acc.length ≤ i → Ev (fun k => impl_NeedlessClues.l0 k ((solB r l).length : Int) acc (l.length : Int) (i : Int) r l) (acc ++ ((List.range' i m).filter (needP r l)).map (fun i : Nat => (i : Int)), true) := by
  have hl := (puzzle_of h).2.2.1
  intro m
  induction m with
  | zero =>
    intro i acc hi ha
    refine Ev.last fun k => ?_
    rw [impl_NeedlessClues.l0, if_neg (by omega)]
    simp
  | succ m ih =>
    intro i acc hi ha
    have hK := solutions_eq r _ (puzzle_erase h i)
    have ew : wrap64 ((i : Int) + 1) = ((i + 1 : Nat) : Int) := by rw [w64 (by omega) (by omega)]; omega
    have hw := without_eq r l (i : Int) (by omega) (by omega) (by omega)
    rw [List.range'_succ, List.filter_cons]
    cases c : needP r l i
    · have c' : ¬ ((solB r (l.eraseIdx i)).length : Int) = ((solB r l).length : Int) := by
        simp only [needP, decide_eq_false_iff_not] at c; omega
      refine Ev.next (f := fun k => impl_NeedlessClues.l0 k ((solB r l).length : Int) acc (l.length : Int) ((i + 1 : Nat) : Int) r l) ⟨0, fun k hk => ?_⟩ ?_
      · rw [impl_NeedlessClues.l0, if_pos (by omega), hw, Option.bind_some, Int.toNat_natCast, hK, Option.bind_some, if_neg c', ew]
      · exact ih (i + 1) acc (by omega) (by omega)
    · have c' : ((solB r (l.eraseIdx i)).length : Int) = ((solB r l).length : Int) := by
        simp only [needP, decide_eq_true_eq] at c; omega
      refine Ev.next (f := fun k => impl_NeedlessClues.l0 k ((solB r l).length : Int) (acc ++ [(i : Int)]) (l.length : Int) ((i + 1 : Nat) : Int) r l) ⟨0, fun k hk => ?_⟩ ?_
      · rw [impl_NeedlessClues.l0, if_pos (by omega), hw, Option.bind_some, Int.toNat_natCast, hK, Option.bind_some, if_pos c', if_pos (by omega), ew]
      · have := ih (i + 1) (acc ++ [(i : Int)]) (by omega) (by simp; omega)
        simpa using this
theorem implNeed_ev (r : Int) (l : List S40) : Ev (fun k => impl_NeedlessClues.f k r l) (needR r l) := by
  have h1 : impl_IsPuzzle.f r l = some (isPuzzleB r l) := rfl
  unfold needR
  cases h : isPuzzleB r l
  · rw [h] at h1
    exact ⟨0, fun k hk => by simp [impl_NeedlessClues.f, h1]⟩
  · rw [h] at h1
    have h3 := solutions_eq r l h
    obtain ⟨K2, h2⟩ := implNeed_l0 r l h l.length 0 [] (by omega) (by simp)
    refine ⟨K2, fun k hk => ?_⟩
    have h2 := h2 k (by omega)
    simp only at h2
    simp only [impl_NeedlessClues.f, h1, h3, Option.bind_some, if_true]
    exact h2

/-! ### after spec_HarderPuzzle -/
def hardL (r : Int) : Nat → List S40 → Nat → List S40
  | 0, l, _ => l
  | m + 1, l, i => if (solB r (l.eraseIdx i)).length = 1 then hardL r m (l.eraseIdx i) i else hardL r m l (i + 1)
def hardR (r : Int) (l : List S40) : Int × List S40 × Bool := if isPuzzleB r l = true ∧ (solB r l).length = 1 then (r, hardL r l.length l 0, true) else (0, [], false)
theorem hardL_length (r : Int) : ∀ (m : Nat) (l : List S40) (i : Nat), (hardL r m l i).length ≤ l.length
  | 0, l, _ => Nat.le_refl _
  | m + 1, l, i => by
    unfold hardL
    split
    · exact Nat.le_trans (hardL_length r m _ i) (List.length_eraseIdx_le _ _)
    · exact hardL_length r m l (i + 1)
theorem specHard_l0 (r : Int) (x : List S40) : ∀ (m i : Nat) (l : List S40), isPuzzleB r l = true → i + m = l.length → Ev (fun k => spec_HarderPuzzle.l0 k l (i : Int) r x) (r, hardL r m l i, true) := by
  intro m
  induction m with
  | zero =>
    intro i l h hi
    refine Ev.last fun k => ?_
    rw [spec_HarderPuzzle.l0, if_neg (by omega)]
    rfl
  | succ m ih =>
    intro i l h hi
    have hl := (puzzle_of h).2.2.1
    obtain ⟨K, hK⟩ := pzSolved_ev r _ (puzzle_erase h i)
    have ew : wrap64 ((i : Int) + 1) = ((i + 1 : Nat) : Int) := by rw [w64 (by omega) (by omega)]; omega
    have hw := pzWithout_eq l (i : Int) (by omega) (by omega) (by omega)
    unfold hardL
    by_cases c : (solB r (l.eraseIdx i)).length = 1
    · rw [if_pos c]
      refine Ev.next (f := fun k => spec_HarderPuzzle.l0 k (l.eraseIdx i) (i : Int) r x) ⟨K, fun k hk => ?_⟩ (ih i (l.eraseIdx i) (puzzle_erase h i) (by rw [List.length_eraseIdx, if_pos (by omega)]; omega))
      have := hK k hk
      simp only [c, decide_true] at this
      rw [spec_HarderPuzzle.l0, if_pos (by omega), hw, Option.bind_some, Int.toNat_natCast, this, Option.bind_some, if_pos rfl]
    · rw [if_neg c]
      refine Ev.next (f := fun k => spec_HarderPuzzle.l0 k l ((i + 1 : Nat) : Int) r x) ⟨K, fun k hk => ?_⟩ (ih (i + 1) l h (by omega))
      have := hK k hk
      simp only [c, decide_false] at this
      rw [spec_HarderPuzzle.l0, if_pos (by omega), hw, Option.bind_some, Int.toNat_natCast, this, Option.bind_some, if_neg (by simp), ew]
theorem specHard_ev (r : Int) (l : List S40) (hl : l.length ≤ 1048576) : Ev (fun k => spec_HarderPuzzle.f k r l) (hardR r l) := by
  obtain ⟨K1, h1⟩ := pzGood_ev r l (by omega)
  unfold hardR
  cases h : isPuzzleB r l
  · rw [h] at h1
    refine ⟨K1 + 1, fun k hk => ?_⟩
    obtain ⟨k, rfl⟩ : ∃ j, k = j + 1 := ⟨k - 1, by omega⟩
    have h1 := h1 (k + 1) (by omega)
    simp only at h1
    simp [spec_HarderPuzzle.f, h1, spec_HarderPuzzle.j0]
  · rw [h] at h1
    obtain ⟨K3, h3⟩ := pzSolved_ev r l h
    by_cases c : (solB r l).length = 1
    · rw [if_pos ⟨rfl, c⟩]
      obtain ⟨K2, h2⟩ := specHard_l0 r l l.length 0 l h (by omega)
      refine ⟨K1 + K2 + K3 + 1, fun k hk => ?_⟩
      obtain ⟨k, rfl⟩ : ∃ j, k = j + 1 := ⟨k - 1, by omega⟩
      have h1 := h1 (k + 1) (by omega)
      have h2 := h2 k (by omega)
      have h3 := h3 (k + 1) (by omega)
      simp only [c, decide_true] at h1 h2 h3
      simp only [spec_HarderPuzzle.f, h1, h3, Option.bind_some, if_true, spec_HarderPuzzle.j0, Bool.not_true, Bool.false_eq_true, if_false, List.nil_append, List.length_nil]
      rw [if_pos (by omega)]
      exact h2
    · refine ⟨K1 + K3 + 1, fun k hk => ?_⟩
      obtain ⟨k, rfl⟩ : ∃ j, k = j + 1 := ⟨k - 1, by omega⟩
      have h1 := h1 (k + 1) (by omega)
      have h3 := h3 (k + 1) (by omega)
      simp only [c, decide_false] at h1 h3
      simp [spec_HarderPuzzle.f, h1, h3, spec_HarderPuzzle.j0, c]

/-! ### after impl_HarderPuzzle -/
theorem implHard_l0 (r : Int) : ∀ (m i : Nat) (l : List S40), isPuzzleB r l = true → i + m = l.length → Ev (fun k => impl_HarderPuzzle.l0 k (i : Int) r l) (r, hardL r m l i, true) := by
  intro m
  induction m with
  | zero =>
    intro i l h hi
    refine Ev.last fun k => ?_
    rw [impl_HarderPuzzle.l0, if_neg (by omega)]
    rfl
  | succ m ih =>
    intro i l h hi
    have hl := (puzzle_of h).2.2.1
    have hK := solutions_eq r _ (puzzle_erase h i)
    have ew : wrap64 ((i : Int) + 1) = ((i + 1 : Nat) : Int) := by rw [w64 (by omega) (by omega)]; omega
    have hw := without_eq r l (i : Int) (by omega) (by omega) (by omega)
    unfold hardL
    by_cases c : (solB r (l.eraseIdx i)).length = 1
    · rw [if_pos c]
      refine Ev.next (f := fun k => impl_HarderPuzzle.l0 k (i : Int) r (l.eraseIdx i)) ⟨0, fun k hk => ?_⟩ (ih i (l.eraseIdx i) (puzzle_erase h i) (by rw [List.length_eraseIdx, if_pos (by omega)]; omega))
      rw [impl_HarderPuzzle.l0, if_pos (by omega), hw, Option.bind_some, Int.toNat_natCast, hK, Option.bind_some, if_pos (by omega)]
    · rw [if_neg c]
      refine Ev.next (f := fun k => impl_HarderPuzzle.l0 k ((i + 1 : Nat) : Int) r l) ⟨0, fun k hk => ?_⟩ (ih (i + 1) l h (by omega))
      rw [impl_HarderPuzzle.l0, if_pos (by omega), hw, Option.bind_some, Int.toNat_natCast, hK, Option.bind_some, if_neg (by omega), ew]
theorem implHard_ev (r : Int) (l : List S40) : Ev (fun k => impl_HarderPuzzle.f k r l) (hardR r l) := by
  have h1 := implIsSolved_eq r l
  unfold isSolvedR at h1
  unfold hardR
  cases h : isPuzzleB r l
  · rw [h] at h1
    refine ⟨1, fun k hk => ?_⟩
    obtain ⟨k, rfl⟩ : ∃ j, k = j + 1 := ⟨k - 1, by omega⟩
    simp [impl_HarderPuzzle.f, h1, impl_HarderPuzzle.j0]
  · rw [h] at h1
    simp only [if_true] at h1
    by_cases c : (solB r l).length = 1
    · rw [if_pos ⟨rfl, c⟩]
      have hl := (puzzle_of h).2.2.1
      have hc : impl_Clue_56.f l = some l := if_pos (by omega)
      obtain ⟨K2, h2⟩ := implHard_l0 r l.length 0 l h (by omega)
      refine ⟨K2 + 1, fun k hk => ?_⟩
      obtain ⟨k, rfl⟩ : ∃ j, k = j + 1 := ⟨k - 1, by omega⟩
      have h2 := h2 k (by omega)
      simp only [c, decide_true] at h1 h2
      simp only [impl_HarderPuzzle.f, h1, hc, Option.bind_some, if_true, impl_HarderPuzzle.j0, Bool.not_true, Bool.false_eq_true, if_false]
      exact h2
    · refine ⟨1, fun k hk => ?_⟩
      obtain ⟨k, rfl⟩ : ∃ j, k = j + 1 := ⟨k - 1, by omega⟩
      simp only [c, decide_false] at h1
      simp [impl_HarderPuzzle.f, h1, impl_HarderPuzzle.j0, c]

/-! ### after impl_MakePuzzle -/
set_option maxRecDepth 100000 in
theorem kdN_lt (z : Nat) : kdN z < 5 := Nat.mod_lt _ (by decide)
set_option maxRecDepth 100000 in
theorem two7 {n : Nat} (h : n ≤ 7) : 2 ^ n ≤ 128 := Nat.le_trans (Nat.pow_le_pow_right (by omega) h) (by decide)
set_option maxRecDepth 100000 in
theorem shl7 {n : Nat} (h1 : 1 ≤ n) (h : n ≤ 7) : shl .i64 1 (n : Int) = ((2 ^ n : Nat) : Int) := by
  have : n = 1 ∨ n = 2 ∨ n = 3 ∨ n = 4 ∨ n = 5 ∨ n = 6 ∨ n = 7 := by omega
  rcases this with rfl | rfl | rfl | rfl | rfl | rfl | rfl <;> decide +kernel
set_option maxRecDepth 100000 in
theorem argN_ok (s : ByteArray) (z : Nat) (h1 : 1 ≤ s.size) (h7 : s.size ≤ 7) : okArg s.size (kdN z : Nat) (argN s z : Nat) := by
  have h5 := kdN_lt z
  have hp := two7 h7
  have hp0 : 0 < 2 ^ s.size := Nat.pow_pos (by omega)
  have m1 : nxN (nxN z) % s.size < s.size := Nat.mod_lt _ (by omega)
  have m2 : nxN (nxN z) % 2 ^ s.size < 2 ^ s.size := Nat.mod_lt _ hp0
  unfold okArg argN
  by_cases c : kdN z = 0 ∨ kdN z = 4
  · rw [if_pos (by omega), if_pos c]; omega
  · rw [if_neg (by omega), if_neg c]
    by_cases c2 : kdN z = 2
    · rw [if_pos (by omega), if_pos c2]; omega
    · rw [if_neg (by omega), if_neg c2]
      by_cases c3 : kdN z = 3
      · rw [if_pos (by omega), if_pos c3]; omega
      · rw [if_neg (by omega)]; trivial
/-- The clue that is made. -/
def clueM (s : ByteArray) (z : Nat) : S40 := ⟨(kdN z : Nat), if ((kdN z : Nat) : Int) = 1 then valB 1 0 s else (argN s z : Nat), if ((kdN z : Nat) : Int) = 1 then 0 else valB (kdN z : Nat) (argN s z : Nat) s⟩
set_option maxRecDepth 100000 in
theorem toldP_eq (s : ByteArray) (z : Nat) (h7 : s.size ≤ 7) (hst : stateB s = true) : toldP s z = some ((clueM s z).f0, (clueM s z).f1, (clueM s z).f2) := by
  have h1 : 1 ≤ (s.size : Int) := by unfold stateB at hst; simp only [Bool.and_eq_true] at hst; exact inB_lo hst.1
  have h5 := kdN_lt z
  exact told_ev _ _ 0 s h7 hst (argN_ok s z (by omega) h7) ⟨by omega, by omega⟩ 40 (by omega)
def makeL (s : ByteArray) : Nat → Nat → List S40 → List S40
  | 0, _, acc => acc
  | n + 1, z, acc => makeL s n (nxN (nxN z)) (acc ++ [clueM s z])
set_option maxRecDepth 100000 in
theorem makeL_length (s : ByteArray) : ∀ (n z : Nat) (acc : List S40), (makeL s n z acc).length = acc.length + n
  | 0, _, _ => rfl
  | n + 1, z, acc => by rw [makeL, makeL_length s n, List.length_append, List.length_singleton]; omega
set_option maxRecDepth 100000 in
theorem mkP_eq (s : ByteArray) (h7 : s.size ≤ 7) (hst : stateB s = true) : ∀ (n z : Nat) (acc : List S40), mkP s n z acc = some (makeL s n z acc)
  | 0, _, _ => rfl
  | n + 1, z, acc => by
    rw [mkP, toldP_eq s z h7 hst, Option.bind_some]
    exact mkP_eq s h7 hst n _ _
set_option maxRecDepth 100000 in
theorem pzNext_eq (z : Nat) (hz : z < 10007) : spec_pzNext.f (z : Int) = some (nxN z : Int) := by
  unfold spec_pzNext.f
  rw [Int.mul_comm 181 (z : Int), nxN_int z hz]
set_option maxRecDepth 100000 in
theorem pzOf_ev (s : ByteArray) (kd : Nat) (a : Nat) (h7 : s.size ≤ 7) (hst : stateB s = true) (ha : okArg s.size kd a) : Ev (fun k => spec_pzOf.f k kd a s) ((kd : Int), if (kd : Int) = 1 then valB 1 0 s else (a : Int), if (kd : Int) = 1 then 0 else valB kd a s) := by
  obtain ⟨K2, h2⟩ := riOn_ev s (by omega)
  obtain ⟨K3, h3⟩ := pzValue_ev kd a s h7 (stateB_bits hst) ha
  refine ⟨K2 + K3, fun k hk => ?_⟩
  have h2 := h2 k (by omega)
  have h3 := h3 k (by omega)
  simp only at h2 h3
  by_cases c : (kd : Int) = 1
  · simp only [spec_pzOf.f, if_pos c, h2, Option.bind_some]
    rw [c]; rfl
  · simp only [spec_pzOf.f, if_neg c, h3, Option.bind_some]
/-- The ring or number that the reference gives to a clue. -/
def argS (s : ByteArray) (z : Nat) : Nat := if kdN z = 2 then nxN (nxN z) % 8 + 2 else if kdN z = 3 then nxN (nxN z) % 2 ^ s.size else nxN (nxN z) % s.size
set_option maxRecDepth 100000 in
theorem argS_ok (s : ByteArray) (z : Nat) (h1 : 1 ≤ s.size) (h7 : s.size ≤ 7) : okArg s.size (kdN z : Nat) (argS s z : Nat) := by
  have h := argN_ok s z h1 h7
  by_cases c : kdN z = 1
  · unfold okArg
    rw [if_neg (by omega), if_neg (by omega), if_neg (by omega)]
    trivial
  · have h5 := kdN_lt z
    have e : argS s z = argN s z := by
      unfold argS argN
      generalize nxN (nxN z) = Y
      generalize kdN z = d at c h5 ⊢
      have hc : d = 0 ∨ d = 2 ∨ d = 3 ∨ d = 4 := by omega
      rcases hc with rfl | rfl | rfl | rfl <;> simp
    rw [e]; exact h
set_option maxRecDepth 100000 in
theorem clueS_eq (s : ByteArray) (z : Nat) : (⟨((kdN z : Nat) : Int), (if ((kdN z : Nat) : Int) = 1 then valB 1 0 s else ((argS s z : Nat) : Int)), (if ((kdN z : Nat) : Int) = 1 then 0 else valB (kdN z : Nat) ((argS s z : Nat) : Int) s)⟩ : S40) = clueM s z := by
  unfold clueM
  have h5 := kdN_lt z
  by_cases c : kdN z = 1
  · rw [if_pos (by omega), if_pos (by omega), if_pos (by omega), if_pos (by omega)]
  · have e : argS s z = argN s z := by
      unfold argS argN
      generalize nxN (nxN z) = Y
      generalize kdN z = d at c h5 ⊢
      have hc : d = 0 ∨ d = 2 ∨ d = 3 ∨ d = 4 := by omega
      rcases hc with rfl | rfl | rfl | rfl <;> simp
    rw [e]
set_option maxRecDepth 100000 in
theorem specStep (s : ByteArray) (k n z : Nat) (r : Int) (acc : List S40) (h1 : 1 ≤ s.size) (h7 : s.size ≤ 7) (hz : z < 10007) (hn : n ≤ 6) (ha : acc.length < 7) (t : Int × Int × Int) (ht : spec_pzOf.f k ((kdN z : Nat) : Int) ((argS s z : Nat) : Int) s = some t) :
    spec_MakePuzzle.l0 (k + 1) s ((n + 1 : Nat) : Int) (z : Int) r acc = spec_MakePuzzle.l0 k s (n : Int) (nxN (nxN z) : Int) r (acc ++ [⟨t.1, t.2.1, t.2.2⟩]) := by
  have hmod : Int.tmod (nxN z : Int) 5 = (kdN z : Int) := tmodN (nxN z) 5
  have e1 := pzNext_eq z hz
  have e2 := pzNext_eq (nxN z) (nxN_lt z)
  have h5 := kdN_lt z
  unfold argS at ht
  generalize nxN (nxN z) = Y at e2 ht ⊢
  generalize nxN z = X at e1 e2 hmod ⊢
  generalize kdN z = d at h5 ht hmod
  have hmod8 : Int.tmod (Y : Int) 8 = ((Y % 8 : Nat) : Int) := tmodN _ 8
  have hmods : Int.tmod (Y : Int) (s.size : Int) = ((Y % s.size : Nat) : Int) := tmodN _ _
  have hsh := shl7 (n := s.size) (by omega) h7
  have hp0 : 0 < 2 ^ s.size := Nat.pow_pos (by omega)
  have hmodp : Int.tmod (Y : Int) (shl .i64 1 (s.size : Int)) = ((Y % 2 ^ s.size : Nat) : Int) := by rw [hsh]; exact tmodN _ _
  have ew : wrap64 (((n + 1 : Nat) : Int) - 1) = (n : Int) := by rw [w64 (by omega) (by omega)]; omega
  rw [spec_MakePuzzle.l0, if_pos (by omega), e1, Option.bind_some, e2, Option.bind_some, if_neg (by omega), hmod]
  by_cases c2 : d = 2
  · subst c2
    rw [if_pos rfl] at ht
    have e8 : wrap64 (((Y % 8 : Nat) : Int) + 2) = ((Y % 8 + 2 : Nat) : Int) := by rw [w64 (by omega) (by omega)]; omega
    rw [if_pos (by omega), hmod8, e8, ht, Option.bind_some, if_pos (by omega), ew]
  · by_cases c3 : d = 3
    · subst c3
      rw [if_neg (by omega), if_pos rfl] at ht
      rw [if_neg (by omega), if_pos (by omega), if_neg (by rw [hsh]; omega), hmodp, ht, Option.bind_some, if_pos (by omega), ew]
    · rw [if_neg c2, if_neg c3] at ht
      rw [if_neg (by omega), if_neg (by omega), hmods, ht, Option.bind_some, if_pos (by omega), ew]
set_option maxRecDepth 100000 in
theorem specMake_l0 (s : ByteArray) (h7 : s.size ≤ 7) (hst : stateB s = true) : ∀ (n z : Nat) (r : Int) (acc : List S40), z < 10007 → acc.length + n ≤ 6 → Ev (fun k => spec_MakePuzzle.l0 k s (n : Int) (z : Int) r acc) (r, makeL s n z acc, true)
  | 0, z, r, acc, _, _ => Ev.last fun k => by rw [spec_MakePuzzle.l0, if_neg (by omega)]; rfl
  | n + 1, z, r, acc, hz, hn => by
    have h1 : 1 ≤ (s.size : Int) := by unfold stateB at hst; simp only [Bool.and_eq_true] at hst; exact inB_lo hst.1
    have ih := specMake_l0 s h7 hst n (nxN (nxN z)) r (acc ++ [clueM s z]) (nxN_lt _) (by simp; omega)
    obtain ⟨K, hK⟩ := pzOf_ev s (kdN z) (argS s z) h7 hst (argS_ok s z (by omega) h7)
    refine Ev.next ⟨K, fun k hk => ?_⟩ ih
    have hK := hK k hk
    simp only at hK
    rw [specStep s k n z r acc (by omega) h7 hz (by omega) (by omega) _ hK]
    simp only [clueS_eq]
def makeR (s : ByteArray) (a b : Int) : Int × List S40 × Bool := if (hiddenB s && inB a 0 6 && inB b 0 9999) = true then ((s.size : Int), makeL s a.toNat b.toNat [], true) else (0, [], false)
set_option maxRecDepth 100000 in
theorem makeR_length (s : ByteArray) (a b : Int) : (makeR s a b).2.1.length ≤ 6 := by
  unfold makeR
  split
  · rename_i h
    simp only [Bool.and_eq_true] at h
    have := inB_hi h.1.2
    simp only [makeL_length, List.length_nil]
    omega
  · simp
set_option maxRecDepth 100000 in
theorem hidden_facts {s : ByteArray} (h : hiddenB s = true) : stateB s = true ∧ 1 ≤ s.size ∧ s.size ≤ 7 := by
  unfold hiddenB at h
  simp only [Bool.and_eq_true, decide_eq_true_eq] at h
  have h1 := h.1
  unfold stateB at h1
  simp only [Bool.and_eq_true] at h1
  have := inB_lo h1.1
  exact ⟨h.1, by omega, h.2⟩
set_option maxRecDepth 100000 in
theorem implMake_eq (s : ByteArray) (a b : Int) (hs : s.size ≤ 9223372036854775807) : impl_MakePuzzle.f s a b = some (makeR s a b) := by
  unfold impl_MakePuzzle.f makeR
  rw [isHidden_eq s hs, Option.bind_some]
  cases h : hiddenB s
  · simp
  · obtain ⟨h1, h2, h3⟩ := hidden_facts h
    cases c1 : inB a 0 6
    · simp
    · cases c2 : inB b 0 9999
      · simp
      · rw [if_pos rfl, if_pos rfl, if_pos rfl, if_pos ⟨by omega, h3⟩, mkP_eq s h3 h1]
        rfl
set_option maxRecDepth 100000 in
theorem specMake_ev (s : ByteArray) (a b : Int) : Ev (fun k => spec_MakePuzzle.f k s a b) (makeR s a b) := by
  obtain ⟨K, hK⟩ := pzHidden_ev s
  have hf : ∀ k, 1 ≤ k → spec_MakePuzzle.j0 k s a b true = some (0, [], false) := by
    intro k hk
    obtain ⟨k, rfl⟩ : ∃ m, k = m + 1 := ⟨k - 1, by omega⟩
    rw [spec_MakePuzzle.j0, if_pos rfl]
  have hl : ∀ x y z : Int, spec_l1In.f x y z = some (inB x y z) := inB_ite
  cases h : hiddenB s
  · refine ⟨K + 1, fun k hk => ?_⟩
    have := hK k (by omega)
    simp only at this
    simp [spec_MakePuzzle.f, this, h, hf k (by omega), makeR]
  · obtain ⟨h1, h2, h3⟩ := hidden_facts h
    cases c1 : inB a 0 6
    · refine ⟨K + 1, fun k hk => ?_⟩
      have := hK k (by omega)
      simp only at this
      simp [spec_MakePuzzle.f, this, h, hf k (by omega), makeR, hl, c1]
    · cases c2 : inB b 0 9999
      · refine ⟨K + 1, fun k hk => ?_⟩
        have := hK k (by omega)
        simp only at this
        simp [spec_MakePuzzle.f, this, h, hf k (by omega), makeR, hl, c1, c2]
      · have a0 := inB_lo c1
        have a1 := inB_hi c1
        have b0 := inB_lo c2
        have b1 := inB_hi c2
        obtain ⟨n, rfl⟩ : ∃ n : Nat, a = n := ⟨a.toNat, by omega⟩
        obtain ⟨z, rfl⟩ : ∃ n : Nat, b = n := ⟨b.toNat, by omega⟩
        obtain ⟨K2, h4⟩ := specMake_l0 s h3 h1 n z (s.size : Int) [] (by omega) (by simp; omega)
        refine ⟨K + K2 + 1, fun k hk => ?_⟩
        have := hK k (by omega)
        obtain ⟨k, rfl⟩ : ∃ m, k = m + 1 := ⟨k - 1, by omega⟩
        have h4 := h4 k (by omega)
        simp only at this h4
        simp only [spec_MakePuzzle.f, this, h, hl, c1, c2, Option.bind_some, if_true, Bool.not_true, makeR, Bool.and_self]
        rw [spec_MakePuzzle.j0, if_neg (by decide)]
        simpa using h4

/-! ### after impl_number -/
theorem shl_pow2 {n : Nat} (h : n ≤ 60) : shl .i64 1 (n : Int) = ((2 ^ n : Nat) : Int) := by
  have h2 : 2 ^ n ≤ 2 ^ 60 := Nat.pow_le_pow_right (by omega) h
  have e60 : (2 : Nat) ^ 60 = 1152921504606846976 := by decide
  have e : (1 : Int) * 2 ^ n = ((2 ^ n : Nat) : Int) := by rw [Int.one_mul, Int.natCast_pow]; rfl
  have hm : min ((n : Int).toNat) IntKind.i64.bits = n := by
    rw [Int.toNat_natCast]; exact Nat.min_eq_left (Nat.le_trans h (by decide))
  have hw0 : ∀ q : Nat, q ≤ 1152921504606846976 → wrap64 (q : Int) = (q : Int) := fun q hq => w64 (by omega) (by omega)
  have hw := hw0 (2 ^ n) (by rw [← e60]; exact h2)
  have hs : shl .i64 1 (n : Int) = IntKind.i64.wrap ((1 : Int) * 2 ^ min ((n : Int).toNat) IntKind.i64.bits) := rfl
  rw [hs, hm, e, i64_w, hw]
/-! ### after impl_apart -/
/-! ### after impl_apart -/
/-! ### after impl_state -/
theorem srd (a : List Int) (j i : Nat) (v : Int) (hj : j < a.length) : rd (a.set j v) (i : Int) = if i = j then v else rd a (i : Int) := by
  by_cases c : i = j
  · subst c; simp [rd, hj]
  · rw [if_neg c]
    simp [rd, List.getElem?_set_ne (show j ≠ i from fun e => c e.symm)]

/-! ### after impl_state -/
/-- The state of so many rings with a number. -/
def stB (L n : Nat) : ByteArray := ⟨(grS L n).toArray⟩
theorem stB_list (L n : Nat) : (stB L n).data.toList = grS L n := rfl
theorem stB_size (L n : Nat) : (stB L n).size = L := by
  have := Lib.size_eq (stB L n)
  rw [this, stB_list, grS_length]
theorem stB_state (L n : Nat) (h1 : 1 ≤ L) (h : L ≤ 20) : stateB (stB L n) = true := by
  unfold stateB
  rw [stB_size, stB_list, grS_all, inB_of (by omega) (by omega)]; rfl
/-- Ring i of the state with number n. -/
def bitB (n i : Nat) : UInt8 := if (n / 2 ^ i + n / 2 ^ i / 2) % 2 = 1 then 49 else 48
theorem grS_at : ∀ (L n i : Nat) (h : i < (grS L n).length), (grS L n)[i] = bitB n i
  | 0, n, i, h => by rw [grS_length] at h; omega
  | L + 1, n, 0, h => by simp [grS, bitB]
  | L + 1, n, i + 1, h => by
    have h' : i < (grS L (n / 2)).length := by rw [grS_length] at h ⊢; omega
    have ih := grS_at L (n / 2) i h'
    have e : n / 2 / 2 ^ i = n / 2 ^ (i + 1) := by rw [Nat.div_div_eq_div_mul, Nat.pow_succ, Nat.mul_comm 2]
    unfold bitB at ih ⊢
    rw [e] at ih
    rw [← ih]
    simp [grS]
theorem shr_nat (n i : Nat) (h : i ≤ 60) : shr .i64 (n : Int) (i : Int) = ((n / 2 ^ i : Nat) : Int) := by
  have hm : min ((i : Int).toNat) IntKind.i64.bits = i := by
    rw [Int.toNat_natCast]; exact Nat.min_eq_left (Nat.le_trans h (by decide))
  have hs : shr .i64 (n : Int) (i : Int) = (n : Int) / 2 ^ min ((i : Int).toNat) IntKind.i64.bits := rfl
  rw [hs, hm, Int.natCast_ediv, Int.natCast_pow]; rfl
theorem and_one (n : Nat) (h : n < 4611686018427387904) : Go.bits .and .i64 (n : Int) 1 = ((n % 2 : Nat) : Int) := by
  have ha' : n % 2 ^ IntKind.i64.bits = n := Nat.mod_eq_of_lt (Nat.lt_of_lt_of_le h (by decide))
  have e1 : (1 : Int) = ((1 : Nat) : Int) := rfl
  rw [e1]
  simp only [Go.bits, BitVec.ofInt_natCast, BitVec.toNat_and, BitVec.toNat_ofNat, ha']
  have e2 : n &&& (1 % 2 ^ IntKind.i64.bits) = n % 2 := by
    rw [show 1 % 2 ^ IntKind.i64.bits = 1 by decide, Nat.and_one_is_mod]
  rw [e2, i64_w, w64 (by omega) (by omega)]
theorem gray_bit (n i : Nat) : (n ^^^ n / 2) / 2 ^ i % 2 = (n / 2 ^ i + n / 2 ^ i / 2) % 2 := by
  have e : n / 2 / 2 ^ i = n / 2 ^ i / 2 := by rw [Nat.div_div_eq_div_mul, Nat.div_div_eq_div_mul, Nat.mul_comm]
  rw [Nat.xor_div_two_pow, e]
  generalize n / 2 ^ i = y
  have q := @Nat.xor_mod_two_eq_one y (y / 2)
  generalize (y ^^^ y / 2) = x at q ⊢
  by_cases c1 : y % 2 = 1
  · by_cases c2 : y / 2 % 2 = 1
    · have : ¬ x % 2 = 1 := fun h => q.1 h ⟨fun _ => c2, fun _ => c1⟩
      omega
    · have : x % 2 = 1 := q.2 (fun h => c2 (h.1 c1))
      omega
  · by_cases c2 : y / 2 % 2 = 1
    · have : x % 2 = 1 := q.2 (fun h => c1 (h.2 c2))
      omega
    · have : ¬ x % 2 = 1 := fun h => q.1 h ⟨fun h => absurd h c1, fun h => absurd h c2⟩
      omega
theorem state_l0 (L n : Nat) (hL : L ≤ 20) (hn : n < 1048576) : ∀ (d i : Nat) (x : List Int), i + d = L → x.length = L → (∀ j : Nat, j < i → rd x (j : Int) = ((bitB n j).toNat : Int)) →
    Ev (fun k => impl_state.l0 k ((n ^^^ n / 2 : Nat) : Int) x (L : Int) (i : Int)) (stB L n) := by
  have hx : n ^^^ n / 2 < 2 ^ 20 := Nat.xor_lt_two_pow (by simpa using hn) (by have : (2 : Nat) ^ 20 = 1048576 := by decide
                                                                               omega)
  have e20 : (2 : Nat) ^ 20 = 1048576 := by decide
  intro d
  induction d with
  | zero =>
    intro i x hi hxl h
    obtain rfl : i = L := by omega
    have : strOfNums x = stB i n := by
      apply ByteArray.ext
      apply Array.toList_inj.1
      show (x.map fun n => UInt8.ofNat n.toNat) = grS i n
      apply List.ext_getElem (by rw [List.length_map, hxl, grS_length])
      intro j h1 h2
      have hj : j < x.length := by simpa using h1
      have e : x[j] = rd x (j : Int) := by simp [rd, hj]
      rw [List.getElem_map, grS_at i n j h2, e, h j (by omega), Int.toNat_natCast]
      simp
    exact Ev.last fun k => by rw [impl_state.l0, if_neg (by omega), this]
  | succ d ih =>
    intro i x hi hxl h
    have hdl := Nat.div_le_self (n ^^^ n / 2) (2 ^ i)
    refine Ev.next ⟨0, fun k _ => ?_⟩ (ih (i + 1) (x.set i ((bitB n i).toNat : Int)) (by omega) (by rw [List.length_set]; exact hxl) (fun j hj => by
      rw [srd _ _ _ _ (by omega)]
      by_cases c : j = i
      · subst c; rw [if_pos rfl]
      · rw [if_neg c]; exact h j (by omega)))
    have hb : (48 + (((((n ^^^ n / 2) / 2 ^ i % 2 : Nat)) : Int) % 256)) % 256 = ((bitB n i).toNat : Int) := by
      rw [gray_bit]
      unfold bitB
      by_cases c : (n / 2 ^ i + n / 2 ^ i / 2) % 2 = 1
      · rw [if_pos c, c]; rfl
      · rw [if_neg c, show (n / 2 ^ i + n / 2 ^ i / 2) % 2 = 0 by omega]; rfl
    rw [impl_state.l0, if_pos (by omega), if_pos (by omega), if_pos (by omega), shr_nat _ _ (by omega), and_one _ (by omega), hb, Int.toNat_natCast, w64 (by omega) (by omega)]
    rfl
theorem state_ev (L n : Nat) (hL : L ≤ 20) (hn : n < 2 ^ L) : Ev (fun k => impl_state.f k (L : Int) (n : Int)) (stB L n) := by
  have hp := pow20 hL
  obtain ⟨K, hK⟩ := state_l0 L n hL (by omega) L 0 (List.replicate L 0) (by omega) (by simp) (fun j hj => by omega)
  refine ⟨K, fun k hk => ?_⟩
  have hK := hK k hk
  have et : Int.tdiv (n : Int) 2 = ((n / 2 : Nat) : Int) := rfl
  unfold impl_state.f
  dsimp only
  rw [if_pos (by omega), if_pos (by omega), Option.bind_some, et, w64 (a := ((n / 2 : Nat) : Int)) (by omega) (by omega), xor_i64 n (n / 2) (by omega) (by omega), List.length_replicate, Int.toNat_natCast]
  exact hK

/-! ### after spec_riState -/
theorem riState_l0 (L n : Nat) (hL : L ≤ 20) (hn : n < 1048576) : ∀ (d i : Nat), i + d = L →
    Ev (fun k => spec_riState.l0 k (L : Int) (n : Int) ⟨((grS L n).take i).toArray⟩ (i : Int)) (stB L n) := by
  intro d
  induction d with
  | zero =>
    intro i hi
    obtain rfl : i = L := by omega
    rw [List.take_of_length_le (by rw [grS_length]; omega)]
    exact Ev.last fun k => by rw [spec_riState.l0, if_neg (by omega)]; rfl
  | succ d ih =>
    intro i hi
    have hlt : i < (grS L n).length := by rw [grS_length]; omega
    have hd1 := Nat.div_le_self n (2 ^ i)
    have hd2 := Nat.div_le_self n (2 ^ (i + 1))
    have ew : wrap64 ((i : Int) + 1) = ((i + 1 : Nat) : Int) := by rw [w64 (by omega) (by omega)]; omega
    have ez : (⟨((grS L n).take i).toArray⟩ : ByteArray).size = i := by
      rw [Lib.size_eq]; show ((grS L n).take i).length = i; rw [List.length_take]; omega
    have e2 : n / 2 ^ (i + 1) = n / 2 ^ i / 2 := by rw [Nat.div_div_eq_div_mul, Nat.pow_succ]
    have htk : (grS L n).take (i + 1) = (grS L n).take i ++ [bitB n i] := by rw [List.take_succ_eq_append_getElem hlt, grS_at L n i hlt]
    refine Ev.next ⟨0, fun k _ => ?_⟩ (ih (i + 1) (by omega))
    rw [spec_riState.l0, ew, if_pos (by omega), if_pos (by omega), if_pos (by omega), shr_nat _ _ (by omega), shr_nat _ _ (by omega), and_one _ (by omega), and_one _ (by omega), ez, htk]
    unfold bitB
    rw [e2]
    by_cases c : (n / 2 ^ i + n / 2 ^ i / 2) % 2 = 1
    · rw [if_neg (by omega), if_pos (by omega), if_pos c, ← str_snoc]
    · rw [if_pos (by omega), if_pos (by omega), if_neg c, ← str_snoc]
theorem riState_ev (L n : Nat) (hL : L ≤ 20) (hn : n < 2 ^ L) : Ev (fun k => spec_riState.f k (L : Int) (n : Int)) (stB L n) := by
  have hp := pow20 hL
  exact riState_l0 L n hL (by omega) L 0 (by omega)

/-! ### after impl_movesOf -/
theorem canL_at : ∀ (l : List UInt8) (j : Nat), l.all isBit = true → canL l (j + 1) = decide (j + 1 < l.length ∧ l.getD j 0 = 49 ∧ (l.take j).count 49 = 0)
  | [], j, _ => by simp [canL]
  | b :: t, 0, h => by
    cases t with
    | nil => simp [canL]
    | cons c t =>
      simp only [canL, List.isEmpty_cons, Bool.not_false, Bool.and_true]
      rw [Bool.eq_iff_iff]
      simp
  | b :: t, j + 1, h => by
    rw [List.all_cons, Bool.and_eq_true] at h
    have ih := canL_at t j h.2
    show (b == 48 && canL t (j + 1)) = _
    rw [ih]
    rcases bit_cases h.1 with rfl | rfl
    · simp
    · simp
theorem canB_L (s : ByteArray) (hb : s.data.toList.all isBit = true) (i : Nat) (hi : i < s.size) : canB s (i : Int) = canL s.data.toList i := by
  have hz := Lib.size_eq s
  cases i with
  | zero =>
    have e : canL s.data.toList 0 = true := by cases s.data.toList <;> rfl
    rw [e]; simp [canB]
  | succ j =>
    rw [canL_at _ _ hb]
    have hj : j < s.data.toList.length := by omega
    have e1 : ((j + 1 : Nat) : Int) - 1 = (j : Int) := by omega
    have eb := bt_nat s j hj
    have eg : s.data.toList.getD j 0 = s.data.toList[j] := by simp [List.getD, List.getElem?_eq_getElem hj]
    have q : ((s.data.toList[j].toNat : Int) = 49) = (s.data.toList[j] = 49) := byte_toInt _ 49 (by omega)
    unfold canB
    rw [e1, eb, eg, Int.toNat_natCast, inB_of (by omega) (by omega), decide_eq_false (show ¬ ((j + 1 : Nat) : Int) = 0 by omega)]
    simp only [q, Bool.false_or, Bool.true_and]
    have hlt : j + 1 < s.data.toList.length := by omega
    rw [Bool.eq_iff_iff]
    simp [hlt]
    intro _ _
    omega
def movesI (s : ByteArray) : List Int := (movesL s.data.toList).map fun i : Nat => (i : Int)
theorem moves_l0 (s : ByteArray) (hs : s.size ≤ 20) (hb : s.data.toList.all isBit = true) : ∀ (d i : Nat), i + d = s.size →
    Ev (fun k => impl_movesOf.l0 k s (((List.range i).filter (canL s.data.toList)).map fun j : Nat => (j : Int)) (s.size : Int) (i : Int)) (movesI s) := by
  have hz := Lib.size_eq s
  intro d
  induction d with
  | zero =>
    intro i hi
    obtain rfl : i = s.size := by omega
    refine Ev.last fun k => ?_
    rw [impl_movesOf.l0, if_neg (by omega)]
    unfold movesI movesL
    rw [hz]
  | succ d ih =>
    intro i hi
    have hlen : (((List.range i).filter (canL s.data.toList)).map fun j : Nat => (j : Int)).length ≤ i := by
      rw [List.length_map]; exact Nat.le_trans (List.length_filter_le _ _) (by simp)
    refine Ev.next ⟨0, fun k _ => ?_⟩ (ih (i + 1) (by omega))
    rw [impl_movesOf.l0, if_pos (by omega), canMove_eq s _ (by omega) hb, Option.bind_some, canB_L s hb i (by omega), List.range_succ, List.filter_append, List.map_append, w64 (by omega) (by omega)]
    cases hc : canL s.data.toList i
    · rw [if_neg (by simp)]
      simp [hc]
    · rw [if_pos rfl, if_pos (by omega)]
      simp [hc]
theorem movesOf_ev {s : ByteArray} (h : stateB s = true) : Ev (fun k => impl_movesOf.f k s) (movesI s) := by
  obtain ⟨h1, h2, h3, h4⟩ := state_facts h
  exact moves_l0 s h2 h3 s.size 0 (by omega)

/-! ### after impl_MovesOf -/
def movesR (s : ByteArray) : List Int × Bool := if stateB s = true then (movesI s, true) else ([], false)
theorem implMoves_ev (s : ByteArray) (hs : s.size ≤ 1048576) : Ev (fun k => impl_MovesOf.f k s) (movesR s) := by
  unfold movesR
  by_cases c : stateB s = true
  · obtain ⟨K, hK⟩ := movesOf_ev c
    refine ⟨K, fun k hk => ?_⟩
    have hK := hK k hk
    simp only at hK
    simp [impl_MovesOf.f, isState_eq s (by omega), c, hK]
  · exact ⟨0, fun k _ => by simp [impl_MovesOf.f, isState_eq s (by omega), c]⟩

/-! ### after impl_state -/
/-! ### after impl_NumberOfState -/
/-! ### after laws_xHas -/
theorem xHas_ev (l : List Int) (a : Int) (hl : l.length ≤ 9223372036854775806) : Ev (fun k => laws_xHas.f k l a) (decide (a ∈ l)) := by
  have key : ∀ (d i : Nat), i + d = l.length → Ev (fun k => laws_xHas.l0 k a l (l.length : Int) (i : Int)) (decide (a ∈ l.drop i)) := by
    intro d
    induction d with
    | zero =>
      intro i hi
      rw [List.drop_of_length_le (by omega)]
      exact Ev.last fun k => by rw [laws_xHas.l0, if_neg (by omega)]; rfl
    | succ d ih =>
      intro i hi
      have hlt : i < l.length := by omega
      have er : rd l (i : Int) = l[i] := by simp [rd, hlt]
      rw [List.drop_eq_getElem_cons hlt]
      by_cases c : l[i] = a
      · have e : decide (a ∈ l[i] :: l.drop (i + 1)) = true := decide_eq_true (by rw [c]; exact List.mem_cons_self)
        rw [e]
        exact Ev.last fun k => by rw [laws_xHas.l0, if_pos (by omega), if_pos (by omega), if_pos (by omega), er, if_pos c]
      · have e : decide (a ∈ l[i] :: l.drop (i + 1)) = decide (a ∈ l.drop (i + 1)) := by
          rw [decide_eq_decide, List.mem_cons]
          exact ⟨fun h => h.resolve_left (fun h' => c h'.symm), .inr⟩
        rw [e]
        refine Ev.next ⟨0, fun k _ => ?_⟩ (ih (i + 1) (by omega))
        rw [laws_xHas.l0, if_pos (by omega), if_pos (by omega), if_pos (by omega), er, if_neg c, w64 (by omega) (by omega)]
        rfl
  have := key l.length 0 (by omega)
  rwa [List.drop_zero] at this

/-! ### after laws_xPuzzle -/
theorem xPuzzle_ev (r : Int) (l : List S40) (hl : l.length ≤ 9223372036854775806) : Ev (fun k => laws_xPuzzle.f k r l r l) true := by
  have key : ∀ (d i : Nat), i + d = l.length → Ev (fun k => laws_xPuzzle.l0 k (l.length : Int) (i : Int) r l r l) true := by
    intro d
    induction d with
    | zero => intro i hi; exact Ev.last fun k => by rw [laws_xPuzzle.l0, if_neg (by omega)]
    | succ d ih =>
      intro i hi
      refine Ev.next ⟨0, fun k _ => ?_⟩ (ih (i + 1) (by omega))
      rw [laws_xPuzzle.l0, if_pos (by omega), if_pos (by omega), if_pos (by omega), if_pos (by omega), if_neg (by simp), w64 (by omega) (by omega)]
      rfl
  refine Ev.next ⟨0, fun k _ => ?_⟩ (key l.length 0 (by omega))
  simp only [laws_xPuzzle.f, if_true, laws_xPuzzle.j0, bne_self_eq_false, Bool.false_eq_true, if_false]
  rfl

/-! ### after impl_MakePuzzle -/
/-- Does a state fit a clue, if both are such? -/
def doesR (k a b : Int) (s : ByteArray) : Bool × Bool := if (hiddenB s && clueB s.size k a b) = true then (fitsB k a b s, true) else (false, false)
theorem implDoes_ev (k a b : Int) (s : ByteArray) (hs : s.size ≤ 1048576) : Ev (fun n => impl_DoesFit.f n k a b s) (doesR k a b s) := by
  have h2 := isHidden_eq s (by omega)
  unfold doesR
  cases hh : hiddenB s
  · rw [hh] at h2
    exact ⟨0, fun n _ => by simp [impl_DoesFit.f, h2]⟩
  · rw [hh] at h2
    obtain ⟨hst, h1, h7⟩ := hidden_facts hh
    have hr : inB (s.size : Int) 1 7 = true := inB_of (by omega) (by omega)
    cases hc : clueB s.size k a b
    · refine ⟨1, fun n hn => ?_⟩
      obtain ⟨n, rfl⟩ : ∃ z, n = z + 1 := ⟨n - 1, by omega⟩
      have e2 := implClueA_eq n s.size k a b
      simp [impl_DoesFit.f, h2, e2, isClueB, hr, hc]
    · obtain ⟨_, f2⟩ := fits_12 k a b s h7 hst hc
      refine ⟨13, fun n hn => ?_⟩
      obtain ⟨n, rfl⟩ : ∃ z, n = z + 1 := ⟨n - 1, by omega⟩
      have e2 := implClueA_eq n s.size k a b
      simp [impl_DoesFit.f, h2, e2, isClueB, hr, hc, f2 (n + 1) (by omega)]

/-! ### after impl_MakePuzzle -/
theorem specDoes_ev (k a b : Int) (s : ByteArray) : Ev (fun n => spec_DoesFit.f n k a b s) (doesR k a b s) := by
  obtain ⟨K1, g1⟩ := pzHidden_ev s
  unfold doesR
  cases hh : hiddenB s
  · rw [hh] at g1
    exact ⟨K1, fun n hn => by have g1 := g1 n hn; simp only at g1; simp [spec_DoesFit.f, g1]⟩
  · rw [hh] at g1
    obtain ⟨hst, h1, h7⟩ := hidden_facts hh
    have hr : inB (s.size : Int) 1 7 = true := inB_of (by omega) (by omega)
    cases hc : clueB s.size k a b
    · refine ⟨K1 + 1, fun n hn => ?_⟩
      obtain ⟨n, rfl⟩ : ∃ z, n = z + 1 := ⟨n - 1, by omega⟩
      have g1 := g1 (n + 1) (by omega)
      simp only at g1
      have e2 := pzClueA_eq n s.size k a b (by omega)
      simp [spec_DoesFit.f, g1, e2, hc]
    · obtain ⟨⟨K2, f2⟩, _⟩ := fits_12 k a b s h7 hst hc
      refine ⟨K1 + K2 + 1, fun n hn => ?_⟩
      obtain ⟨n, rfl⟩ : ∃ z, n = z + 1 := ⟨n - 1, by omega⟩
      have g1 := g1 (n + 1) (by omega)
      have f2 := f2 (n + 1) (by omega)
      simp only at g1 f2
      have e2 := pzClueA_eq n s.size k a b (by omega)
      simp [spec_DoesFit.f, g1, e2, hc, f2]

/-! ### after impl_IsClue -/
theorem specIsClue_ev (r k a b : Int) : Ev (fun n => spec_IsClue.f n r k a b) (isClueB r k a b) := by
  refine ⟨1, fun n hn => ?_⟩
  obtain ⟨n, rfl⟩ : ∃ z, n = z + 1 := ⟨n - 1, by omega⟩
  dsimp only
  simp only [spec_IsClue.f, spec_pzRings.f, spec_l1In.f, inB_ite, Option.bind_some, isClueB]
  cases h : inB r 1 7
  · simp
  · have := inB_lo h
    rw [pzClueA_eq n r k a b (by omega)]
    simp
theorem implIsClue_ev (r k a b : Int) : Ev (fun n => impl_IsClue.f n r k a b) (isClueB r k a b) := by
  refine ⟨1, fun n hn => ?_⟩
  obtain ⟨n, rfl⟩ : ∃ z, n = z + 1 := ⟨n - 1, by omega⟩
  exact implClueA_eq n r k a b

/-! ### after impl_DoesFit -/
theorem big_not {r : Int} {l : List S40} (h : ¬ l.length ≤ 6) : isPuzzleB r l = false := by
  cases c : isPuzzleB r l
  · rfl
  · exact absurd (puzzle_of c).2.2.1 h
theorem numB_grN {s : ByteArray} (h7 : s.size ≤ 7) (h : stateB s = true) : numB s = (grN s.data.toList : Int) := by
  obtain ⟨_, _, h3, _⟩ := numB_ev s h7 (stateB_bits h)
  obtain ⟨K, hK⟩ := number_ev h
  have h1 := h3 (K + 12) (by omega)
  have h2 := hK (K + 12) (by omega)
  simp only at h2
  rw [h1] at h2
  exact Option.some.inj h2
theorem grN_small {s : ByteArray} (h7 : s.size ≤ 7) (h : stateB s = true) : grN s.data.toList < 2 ^ s.size ∧ grN s.data.toList < 128 := by
  have h1 := grN_lt s.data.toList
  have h2 := (state_facts h).2.2.2
  rw [h2] at h1
  have := two7 h7
  exact ⟨h1, by omega⟩
theorem valB_rng {s : ByteArray} {k a : Int} (h7 : s.size ≤ 7) (hst : stateB s = true) (ha : okArg s.size k a) (h0 : 0 ≤ k) (h4 : k ≤ 4) (h3 : k = 3 → a ≤ 127) :
    (k = 0 ∨ k = 4 → inB (valB k a s) 0 1 = true) ∧ (k = 2 → inB (valB k a s) 0 (a - 1) = true) ∧ (k = 3 → inB (valB k a s) 0 127 = true) := by
  have hb := stateB_bits hst
  obtain ⟨n0, n1, _, _⟩ := numB_ev s h7 hb
  refine ⟨?_, ?_, ?_⟩
  · rintro (rfl | rfl)
    · unfold okArg at ha
      rw [if_pos (by simp)] at ha
      have hz : s.size = s.data.toList.length := Lib.size_eq s
      obtain ⟨i, rfl⟩ : ∃ i : Nat, a = i := ⟨a.toNat, by omega⟩
      have hi : i < s.data.toList.length := by omega
      have hbi := List.all_eq_true.1 hb _ (List.getElem_mem hi)
      unfold valB
      rw [if_pos rfl, bt_nat s i hi]
      rcases bit_cases hbi with e | e <;> rw [e] <;> decide
    · unfold valB
      rw [if_neg (by decide), if_neg (by decide), if_neg (by decide), if_neg (by decide)]
      cases canB s a <;> decide
  · rintro rfl
    unfold okArg at ha
    rw [if_neg (by decide), if_pos rfl] at ha
    unfold valB
    rw [if_neg (by decide), if_neg (by decide), if_pos rfl]
    have e1 := Int.tmod_lt_of_pos (numB s) (show 0 < a by omega)
    have e2 := Int.tmod_nonneg a n0
    exact inB_of e2 (by omega)
  · rintro rfl
    unfold okArg at ha
    rw [if_neg (by decide), if_neg (by decide), if_pos rfl] at ha
    unfold valB
    rw [if_neg (by decide), if_neg (by decide), if_neg (by decide), if_pos rfl]
    refine inB_of ?_ ?_ <;> split <;> omega
theorem onN_le (s : ByteArray) : onN s ≤ s.size := by
  unfold onN
  rw [Lib.size_eq s]
  exact List.count_le_length
set_option maxRecDepth 100000 in
/-- A clue that is made is one, and its state fits it. -/
theorem clueM_ok {s : ByteArray} (h : hiddenB s = true) (z : Nat) : clueB s.size (clueM s z).f0 (clueM s z).f1 (clueM s z).f2 = true ∧ fitsB (clueM s z).f0 (clueM s z).f1 (clueM s z).f2 s = true := by
  obtain ⟨hst, h1, h7⟩ := hidden_facts h
  have h5 := kdN_lt z
  have hok := argN_ok s z h1 h7
  have hle := onN_le s
  have hlim : kdN z = 3 → (argN s z : Int) < ((2 ^ s.size : Nat) : Int) := by
    intro c
    unfold argN
    rw [if_neg (by omega), if_neg (by omega), if_pos c]
    have := Nat.mod_lt (nxN (nxN z)) (show 0 < 2 ^ s.size from Nat.pow_pos (by omega))
    omega
  have hp := two7 h7
  have hv := valB_rng (k := (kdN z : Nat)) (a := (argN s z : Nat)) h7 hst hok (by omega) (by omega) (fun c => by have := hlim (by omega); omega)
  have hsh : wrap64 (shl .i64 1 (s.size : Int) - 1) = ((2 ^ s.size : Nat) : Int) - 1 := by
    rw [shl7 h1 h7]
    generalize 2 ^ s.size = q at hp ⊢
    exact w64 (by omega) (by omega)
  unfold clueM
  generalize argN s z = q at hok hlim hv ⊢
  generalize kdN z = m at h5 hok hlim hv ⊢
  have hm : m = 0 ∨ m = 1 ∨ m = 2 ∨ m = 3 ∨ m = 4 := by omega
  have w1 : wrap64 ((s.size : Int) - 1) = (s.size : Int) - 1 := w64 (by omega) (by omega)
  unfold okArg at hok
  rcases hm with rfl | rfl | rfl | rfl | rfl
  · rw [if_pos (by simp)] at hok
    have h2 := hv.1 (by simp)
    refine ⟨?_, by simp [fitsB]⟩
    simp only [clueB, w1]
    rw [if_pos (by simp), if_neg (by simp), if_neg (by simp)]
    simp only [Bool.and_eq_true]
    exact ⟨inB_of (by omega) (by omega), h2⟩
  · refine ⟨?_, by simp [fitsB]⟩
    simp only [clueB]
    rw [if_neg (by simp), if_pos (by simp), if_pos (by simp), if_pos (by simp)]
    have e : valB 1 0 s = (onN s : Int) := by unfold valB; rw [if_neg (by decide), if_pos rfl]
    rw [e]
    simp only [Bool.and_eq_true]
    exact ⟨inB_of (by omega) (by omega), by simp⟩
  · rw [if_neg (by simp), if_pos (by simp)] at hok
    have h2 := hv.2.1 rfl
    refine ⟨?_, by simp [fitsB]⟩
    simp only [clueB]
    rw [if_neg (by simp), if_neg (by simp), if_pos (by simp), if_neg (by simp), if_neg (by simp), w64 (by omega) (by omega)]
    simp only [Bool.and_eq_true]
    exact ⟨inB_of (by omega) (by omega), h2⟩
  · rw [if_neg (by simp), if_neg (by simp), if_pos (by simp)] at hok
    have h2 := hv.2.2 rfl
    have h3 := hlim rfl
    refine ⟨?_, by simp [fitsB]⟩
    simp only [clueB, hsh]
    rw [if_neg (by simp), if_neg (by simp), if_neg (by simp), if_pos (by simp), if_neg (by simp), if_neg (by simp)]
    simp only [Bool.and_eq_true]
    exact ⟨inB_of (by omega) (by omega), h2⟩
  · rw [if_pos (by simp)] at hok
    have h2 := hv.1 (by simp)
    refine ⟨?_, by simp [fitsB]⟩
    simp only [clueB, w1]
    rw [if_pos (by simp), if_neg (by simp), if_neg (by simp)]
    simp only [Bool.and_eq_true]
    exact ⟨inB_of (by omega) (by omega), h2⟩
set_option maxRecDepth 100000 in
theorem makeL_all (s : ByteArray) (P : S40 → Prop) (hP : ∀ z, P (clueM s z)) : ∀ (n z : Nat) (acc : List S40), (∀ x ∈ acc, P x) → ∀ x ∈ makeL s n z acc, P x
  | 0, _, _, h => h
  | n + 1, z, acc, h => by
    rw [makeL]
    refine makeL_all s P hP n _ _ fun x hx => ?_
    rcases List.mem_append.1 hx with hx | hx
    · exact h x hx
    · rw [List.mem_singleton] at hx; rw [hx]; exact hP z
theorem puzzle_mk {r : Int} {l : List S40} (h1 : 1 ≤ r) (h7 : r ≤ 7) (hl : l.length ≤ 6) (h : ∀ x ∈ l, clueB r x.f0 x.f1 x.f2 = true) : isPuzzleB r l = true := by
  unfold isPuzzleB
  simp only [Bool.and_eq_true, decide_eq_true_eq, Bool.not_eq_true', List.any_eq_false]
  refine ⟨⟨inB_of h1 h7, hl⟩, fun x hx => ?_⟩
  simp [isClueB, inB_of h1 h7, h x hx]
set_option maxRecDepth 100000 in
theorem made_ok {s : ByteArray} (h : hiddenB s = true) (n z : Nat) (hn : n ≤ 6) : isPuzzleB s.size (makeL s n z []) = true ∧ (∀ x ∈ makeL s n z [], fitsB x.f0 x.f1 x.f2 s = true) := by
  obtain ⟨hst, h1, h7⟩ := hidden_facts h
  refine ⟨puzzle_mk (by omega) (by omega) (by rw [makeL_length]; simp; omega) (makeL_all s (fun x => clueB s.size x.f0 x.f1 x.f2 = true) (fun z => (clueM_ok h z).1) n z [] (by simp)), makeL_all s (fun x => fitsB x.f0 x.f1 x.f2 s = true) (fun z => (clueM_ok h z).2) n z [] (by simp)⟩

/-! ### after impl_fitting -/
theorem stS_eq {r n : Nat} (h1 : 1 ≤ r) (h7 : r ≤ 7) (hn : n < 2 ^ r) : stS r n = stB r n := by
  obtain ⟨h, _⟩ := st_of r n h1 h7 hn
  obtain ⟨K, hK⟩ := state_ev r n (by omega) hn
  have h1 := h (K + 40) (by omega)
  have h2 := hK (K + 40) (by omega)
  simp only at h2
  rw [h1] at h2
  exact Option.some.inj h2
theorem stB_self {s : ByteArray} (h : stateB s = true) : stB s.size (grN s.data.toList) = s := by
  obtain ⟨_, _, h3, h4⟩ := state_facts h
  unfold stB
  rw [← h4, grS_grN _ h3]
theorem solB_self {s : ByteArray} (h : hiddenB s = true) (l : List S40) (hl : ∀ x ∈ l, fitsB x.f0 x.f1 x.f2 s = true) : s ∈ solB s.size l := by
  obtain ⟨hst, h1, h7⟩ := hidden_facts h
  obtain ⟨g1, _⟩ := grN_small h7 hst
  have e : stS s.size (grN s.data.toList) = s := by
    have := stS_eq h1 h7 g1
    rw [this, stB_self hst]
  unfold solB
  refine List.mem_map.2 ⟨grN s.data.toList, List.mem_filter.2 ⟨List.mem_range.2 (by rw [Int.toNat_natCast]; exact g1), ?_⟩, e⟩
  unfold fitP
  rw [e]
  exact List.all_eq_true.2 hl
theorem solB_sub (r : Int) {l l' : List S40} (h : ∀ x ∈ l', x ∈ l) : (solB r l).Sublist (solB r l') := by
  unfold solB
  refine List.Sublist.map _ ?_
  have e : (List.range (2 ^ r.toNat)).filter (fitP r l) = ((List.range (2 ^ r.toNat)).filter (fitP r l')).filter (fitP r l) := by
    rw [List.filter_filter]
    refine List.filter_congr fun n _ => ?_
    unfold fitP
    cases c : l.all fun x => fitsB x.f0 x.f1 x.f2 (stS r n)
    · simp
    · have : (l'.all fun x => fitsB x.f0 x.f1 x.f2 (stS r n)) = true := List.all_eq_true.2 fun x hx => List.all_eq_true.1 c x (h x hx)
      rw [this]; rfl
  rw [e]
  exact List.filter_sublist
theorem erase_two {α : Type} : ∀ (l : List α) (i j : Nat), j < i → ∀ x ∈ (l.eraseIdx i).eraseIdx j, x ∈ l.eraseIdx j
  | [], _, _, _, x, h => by simp at h
  | a :: t, 0, j, hj, _, _ => absurd hj (by omega)
  | a :: t, i + 1, 0, _, x, h => by
    simp only [List.eraseIdx_cons_succ, List.eraseIdx_cons_zero] at h ⊢
    exact List.mem_of_mem_eraseIdx h
  | a :: t, i + 1, j + 1, hj, x, h => by
    simp only [List.eraseIdx_cons_succ, List.mem_cons] at h ⊢
    rcases h with h | h
    · exact .inl h
    · exact .inr (erase_two t i j (by omega) x h)

/-! ### after impl_DoesFit -/
theorem hard_facts (r : Int) : ∀ (m : Nat) (l : List S40) (i : Nat), isPuzzleB r l = true → i + m = l.length → (solB r l).length = 1 → (∀ j, j < i → (solB r (l.eraseIdx j)).length ≠ 1) →
    isPuzzleB r (hardL r m l i) = true ∧ solB r (hardL r m l i) = solB r l ∧ ∀ j, j < (hardL r m l i).length → (solB r ((hardL r m l i).eraseIdx j)).length ≠ 1
  | 0, l, i, h, hi, h1, hn => ⟨h, rfl, fun j hj => hn j (by unfold hardL at hj; omega)⟩
  | m + 1, l, i, h, hi, h1, hn => by
    unfold hardL
    by_cases c : (solB r (l.eraseIdx i)).length = 1
    · rw [if_pos c]
      have es : solB r l = solB r (l.eraseIdx i) := (solB_sub r (fun x hx => List.mem_of_mem_eraseIdx hx)).eq_of_length (by omega)
      have hlen : (l.eraseIdx i).length = l.length - 1 := by rw [List.length_eraseIdx, if_pos (by omega)]
      rw [es]
      refine hard_facts r m (l.eraseIdx i) i (puzzle_erase h i) (by omega) c fun j hj => ?_
      have s1 := (solB_sub r (l := l.eraseIdx j) (l' := (l.eraseIdx i).eraseIdx j) (erase_two l i j hj)).length_le
      have s2 := (solB_sub r (l := l) (l' := l.eraseIdx j) (fun x hx => List.mem_of_mem_eraseIdx hx)).length_le
      have := hn j hj
      omega
    · rw [if_neg c]
      refine hard_facts r m l (i + 1) h (by omega) h1 fun j hj => ?_
      by_cases cj : j = i
      · rw [cj]; exact c
      · exact hn j (by omega)
theorem need_hard {r : Int} {l : List S40} (h : isPuzzleB r l = true) (h1 : (solB r l).length = 1) : needR r (hardL r l.length l 0) = ([], true) := by
  obtain ⟨a, b, c⟩ := hard_facts r l.length l 0 h (by omega) h1 (fun j hj => absurd hj (by omega))
  unfold needR
  rw [if_pos a]
  congr 1
  rw [List.filter_eq_nil_iff.2]
  · rfl
  · intro i hi
    rw [List.mem_range'] at hi
    obtain ⟨q, hq, rfl⟩ := hi
    have := c (0 + 1 * q) (by omega)
    unfold needP
    rw [b, h1]
    simpa using this

/-! ### after impl_DoesFit -/
theorem specHard_all (r : Int) (l : List S40) (hl : l.length ≤ 9223372036854775807) : Ev (fun k => spec_HarderPuzzle.f k r l) (hardR r l) := by
  by_cases c : l.length ≤ 1048576
  · exact specHard_ev r l c
  · have hb : isPuzzleB r l = false := big_not (by omega)
    obtain ⟨K1, h1⟩ := pzGood_ev r l hl
    unfold hardR
    rw [hb] at h1 ⊢
    refine ⟨K1 + 1, fun k hk => ?_⟩
    obtain ⟨k, rfl⟩ : ∃ j, k = j + 1 := ⟨k - 1, by omega⟩
    have h1 := h1 (k + 1) (by omega)
    simp only at h1
    simp [spec_HarderPuzzle.f, h1, spec_HarderPuzzle.j0]

/-! ### after impl_MakePuzzle -/
def dropR (r : Int) (l : List S40) (a : Int) : Int × List S40 × Bool := if (isPuzzleB r l && inB a 0 (wrap64 (l.length - 1))) = true then (r, l.eraseIdx a.toNat, true) else (0, [], false)
theorem implDrop_all (r : Int) (l : List S40) (a : Int) : impl_DropClue.f r l a = some (dropR r l a) := by
  by_cases c : l.length ≤ 1048576
  · exact implDropClue_eq r l a c
  · have hb : isPuzzleB r l = false := big_not (by omega)
    simp [impl_DropClue.f, impl_IsPuzzle.f, dropR, hb]
theorem specDrop_all (r : Int) (l : List S40) (a : Int) (hl : l.length ≤ 9223372036854775807) : Ev (fun k => spec_DropClue.f k r l a) (dropR r l a) := by
  by_cases c : l.length ≤ 1048576
  · exact specDropClue_ev r l a c
  · have hb : isPuzzleB r l = false := big_not (by omega)
    obtain ⟨K1, h1⟩ := pzGood_ev r l hl
    rw [hb] at h1
    refine ⟨K1, fun k hk => ?_⟩
    have h1 := h1 k hk
    simp only at h1
    simp [spec_DropClue.f, h1, dropR, hb]

/-! ### after impl_MakePuzzle -/
def addR (r : Int) (l : List S40) (a b c : Int) : Int × List S40 × Bool := if (isPuzzleB r l && isClueB r a b c && decide (l.length < 6)) = true then (r, l ++ [⟨a, b, c⟩], true) else (0, [], false)
theorem implAdd_all (r : Int) (l : List S40) (a b c : Int) : Ev (fun k => impl_AddClue.f k r l a b c) (addR r l a b c) := by
  by_cases h : l.length ≤ 1048576
  · exact implAddClue_ev r l a b c h
  · have hb : isPuzzleB r l = false := big_not (by omega)
    exact ⟨0, fun k _ => by simp [impl_AddClue.f, impl_IsPuzzle.f, addR, hb]⟩
theorem specAdd_all (r : Int) (l : List S40) (a b c : Int) (hl : l.length ≤ 9223372036854775807) : Ev (fun k => spec_AddClue.f k r l a b c) (addR r l a b c) := by
  by_cases h : l.length ≤ 1048576
  · exact specAddClue_ev r l a b c h
  · have hb : isPuzzleB r l = false := big_not (by omega)
    obtain ⟨K1, h1⟩ := pzGood_ev r l hl
    rw [hb] at h1
    refine ⟨K1, fun k hk => ?_⟩
    have h1 := h1 k hk
    simp only at h1
    simp [spec_AddClue.f, h1, addR, hb]

/-! ### after impl_NumberOfState -/
set_option maxRecDepth 100000 in
theorem rd_clue (l : List S40) (i : Nat) (h : i < l.length) : rd_T40 l (i : Int) = l[i] := by simp [rd_T40, h]
set_option maxRecDepth 100000 in
theorem drop_facts {r : Int} {l : List S40} {a : Int} (h : (dropR r l a).2.2 = true) : isPuzzleB r l = true ∧ 0 ≤ a ∧ a < l.length ∧ l.length ≤ 6 ∧ dropR r l a = (r, l.eraseIdx a.toNat, true) := by
  unfold dropR at h ⊢
  by_cases c : (isPuzzleB r l && inB a 0 (wrap64 (l.length - 1))) = true
  · rw [if_pos c]
    simp only [Bool.and_eq_true] at c
    have h6 := (puzzle_of c.1).2.2.1
    have h0 := inB_lo c.2
    have h1 := inB_hi c.2
    rw [w64 (by omega) (by omega)] at h1
    exact ⟨c.1, h0, by omega, h6, rfl⟩
  · rw [if_neg c] at h; cases h
set_option maxRecDepth 100000 in
theorem add_facts {r : Int} {l : List S40} {a b c : Int} (h : (addR r l a b c).2.2 = true) : isPuzzleB r l = true ∧ isClueB r a b c = true ∧ l.length < 6 ∧ addR r l a b c = (r, l ++ [⟨a, b, c⟩], true) := by
  unfold addR at h ⊢
  by_cases q : (isPuzzleB r l && isClueB r a b c && decide (l.length < 6)) = true
  · rw [if_pos q]
    simp only [Bool.and_eq_true, decide_eq_true_eq] at q
    exact ⟨q.1.1, q.1.2, q.2, rfl⟩
  · rw [if_neg q] at h; cases h
set_option maxRecDepth 100000 in
theorem clue_is {r : Int} {l : List S40} (h : isPuzzleB r l = true) (i : Nat) (hi : i < l.length) : isClueB r l[i].f0 l[i].f1 l[i].f2 = true := by
  obtain ⟨h1, h7, _, hc⟩ := puzzle_of h
  simp [isClueB, inB_of h1 h7, hc _ (List.getElem_mem hi)]
set_option maxRecDepth 100000 in
theorem add_back {r : Int} {l : List S40} (h : isPuzzleB r l = true) (i : Nat) (hi : i + 1 = l.length) : addR r (l.eraseIdx i) (l[i]'(by omega)).f0 (l[i]'(by omega)).f1 (l[i]'(by omega)).f2 = (r, l, true) := by
  have h6 := (puzzle_of h).2.2.1
  have hlen : (l.eraseIdx i).length = l.length - 1 := by rw [List.length_eraseIdx, if_pos (by omega)]
  unfold addR
  rw [if_pos (by simp only [Bool.and_eq_true, decide_eq_true_eq]; exact ⟨⟨puzzle_erase h i, clue_is h i (by omega)⟩, by omega⟩)]
  have e : l.eraseIdx i ++ [l[i]'(by omega)] = l := by
    rw [List.eraseIdx_eq_take_drop_succ, List.drop_of_length_le (by omega), List.append_nil, ← List.take_succ_eq_append_getElem (by omega), List.take_of_length_le (by omega)]
  exact congrArg (fun z => (r, z, true)) e
set_option maxRecDepth 100000 in
theorem moves_mem {s : ByteArray} (h : stateB s = true) (i : Nat) (hi : i < s.size) : decide (((i : Nat) : Int) ∈ movesI s) = canB s (i : Int) := by
  obtain ⟨_, _, h3, h4⟩ := state_facts h
  rw [canB_L s h3 i hi]
  unfold movesI movesL
  cases c : canL s.data.toList i with
  | true =>
    refine decide_eq_true (List.mem_map.2 ⟨i, List.mem_filter.2 ⟨List.mem_range.2 (by omega), c⟩, rfl⟩)
  | false =>
    refine decide_eq_false fun hm => ?_
    obtain ⟨j, hj, e⟩ := List.mem_map.1 hm
    have : j = i := by omega
    rw [this] at hj
    have := (List.mem_filter.1 hj).2
    rw [c] at this
    cases this
set_option maxRecDepth 100000 in
theorem does_move {s : ByteArray} (h : hiddenB s = true) (i : Nat) (hi : i < s.size) (b : Bool) (hb : canB s (i : Int) = b) : doesR 4 (i : Int) (if b = true then 1 else 0) s = (true, true) := by
  have hc : clueB s.size 4 (i : Int) (if b = true then 1 else 0) = true := by
    obtain ⟨_, h1, h7⟩ := hidden_facts h
    simp only [clueB]
    rw [if_pos (by simp), w64 (by omega) (by omega)]
    simp only [Bool.and_eq_true]
    exact ⟨inB_of (by omega) (by omega), by cases b <;> decide⟩
  unfold doesR
  rw [if_pos (by rw [h, hc]; rfl)]
  unfold fitsB valB
  rw [if_neg (by decide), if_neg (by decide), if_neg (by decide), if_neg (by decide), if_neg (by decide), hb, beq_self_eq_true]
set_option maxRecDepth 100000 in
theorem made_facts {s : ByteArray} {a b : Int} (h : (makeR s a b).2.2 = true) : hiddenB s = true ∧ 0 ≤ a ∧ a ≤ 6 ∧ makeR s a b = ((s.size : Int), makeL s a.toNat b.toNat [], true) := by
  unfold makeR at h ⊢
  by_cases c : (hiddenB s && inB a 0 6 && inB b 0 9999) = true
  · rw [if_pos c]
    simp only [Bool.and_eq_true] at c
    exact ⟨c.1.1, inB_lo c.1.2, inB_hi c.1.2, rfl⟩
  · rw [if_neg c] at h; cases h
set_option maxRecDepth 100000 in
theorem does_num {s : ByteArray} (h : hiddenB s = true) : doesR 3 0 (grN s.data.toList : Int) s = (true, true) := by
  obtain ⟨hst, h1, h7⟩ := hidden_facts h
  obtain ⟨g1, g2⟩ := grN_small h7 hst
  have hp := two7 h7
  have hc : clueB s.size 3 0 (grN s.data.toList : Int) = true := by
    simp only [clueB]
    rw [if_neg (by simp), if_neg (by simp), if_neg (by simp), if_pos (by simp), shl7 h1 h7]
    simp only [Bool.and_eq_true]
    refine ⟨?_, inB_of (by omega) (by omega)⟩
    have hp0 : 0 < 2 ^ s.size := Nat.pow_pos (by omega)
    generalize 2 ^ s.size = q at hp hp0 ⊢
    rw [w64 (by omega) (by omega)]
    exact inB_of (by omega) (by omega)
  unfold doesR
  rw [if_pos (by rw [h, hc]; rfl)]
  unfold fitsB valB
  rw [if_neg (by decide), if_neg (by decide), if_neg (by decide), if_neg (by decide), if_pos (by decide), numB_grN h7 hst]
  congr 1
  rw [beq_iff_eq]
  split <;> omega
set_option maxRecDepth 100000 in
theorem does_on {s : ByteArray} (h : hiddenB s = true) : doesR 1 (onN s : Int) 0 s = (true, true) := by
  have hle := onN_le s
  have hc : clueB s.size 1 (onN s : Int) 0 = true := by
    simp only [clueB]
    rw [if_neg (by simp), if_pos (by simp)]
    simp only [Bool.and_eq_true]
    exact ⟨inB_of (by omega) (by omega), by simp⟩
  unfold doesR
  rw [if_pos (by rw [h, hc]; rfl)]
  unfold fitsB valB
  rw [if_pos (by decide), if_neg (by decide), if_pos (by decide), beq_self_eq_true]

/-! ### after spec_l1Cur_hidden -/
theorem dhidden_ok {l : List Int} (h : okL l) (p s : Int) (h0 : 0 ≤ p) (h1 : p ≤ 100000000) : ∃ t p' s', Ev (fun k => spec_l1Cur_hidden.f k l p s) (t, p', s') ∧ hiddenB t = true ∧ p ≤ p' ∧ p' ≤ p + 4 := by
  obtain ⟨x, p1, s1, e1, x0, x1, a1, a2⟩ := pick_ok h p s 6 h0 (by omega)
  obtain ⟨r, hr⟩ : ∃ r : Nat, x = (r : Int) := ⟨x.toNat, by omega⟩
  have hr5 : r ≤ 5 := by omega
  have ew : wrap64 (1 + x) = ((r + 1 : Nat) : Int) := by rw [w64 (by omega) (by omega)]; omega
  have hp0 : 0 < 2 ^ (r + 1) := Nat.pow_pos (by omega)
  obtain ⟨y, p2, s2, e2, y0, y1, b1, b2⟩ := pick_ok h p1 s1 ((2 ^ (r + 1) : Nat) : Int) (by omega) (by omega)
  obtain ⟨n, hn⟩ : ∃ n : Nat, y = (n : Int) := ⟨y.toNat, by omega⟩
  have hlt : n < 2 ^ (r + 1) := by omega
  obtain ⟨K, hK⟩ := riState_ev (r + 1) n (by omega) hlt
  refine ⟨stB (r + 1) n, p2, s2, ⟨K, fun k hk => ?_⟩, ?_, by omega, by omega⟩
  · have hK := hK k hk
    simp only at hK
    dsimp only
    rw [spec_l1Cur_hidden.f, e1, Option.bind_some]
    dsimp only
    rw [ew, if_pos (Int.natCast_nonneg _), shl_pow2 (by omega), e2, Option.bind_some]
    dsimp only
    rw [hn, hK, Option.bind_some]
  · unfold hiddenB
    rw [stB_state _ _ (by omega) (by omega), stB_size, Bool.true_and]
    exact decide_eq_true (by omega)

/-! ### after spec_l1Cur_surePuzzle -/
theorem dsure_ok {l : List Int} (h : okL l) (p s a : Int) (h0 : 0 ≤ p) (h1 : p ≤ 50000000) : ∃ r L p' s', Ev (fun k => spec_l1Cur_surePuzzle.f k l p s a) (r, L, p', s') ∧ L.length ≤ 6 ∧ p ≤ p' ∧ p' ≤ p + 8 := by
  obtain ⟨t, p1, s1, ⟨K1, g1⟩, ht, a1, a2⟩ := dhidden_ok h p s h0 (by omega)
  obtain ⟨x, p2, s2, e2, _, _, b1, b2⟩ := pick_ok h p1 s1 (wrap64 (a + 1)) (by omega) (by omega)
  obtain ⟨y, p3, s3, e3, _, _, c1, c2⟩ := pick_ok h p2 s2 10000 (by omega) (by omega)
  obtain ⟨K2, g2⟩ := specMake_ev t x y
  refine ⟨(makeR t x y).1, (makeR t x y).2.1, p3, s3, ⟨K1 + K2, fun k hk => ?_⟩, makeR_length t x y, by omega, by omega⟩
  have g1 := g1 k (by omega)
  have g2 := g2 k (by omega)
  simp only at g1 g2
  dsimp only
  rw [spec_l1Cur_surePuzzle.f, g1, Option.bind_some]
  dsimp only
  rw [e2, Option.bind_some]
  dsimp only
  rw [e3, Option.bind_some]
  dsimp only
  rw [g2, Option.bind_some]

/-! ### after spec_l1Cur_clue -/
theorem dclue_j0 {l : List Int} (h : okL l) (b : Bool) (p s a c d : Int) (h0 : 0 ≤ p) (h1 : p ≤ 50000000) : ∃ a' b' c' p' s', Ev (fun k => spec_l1Cur_clue.j0 k b l p s a c d) (a', b', c', p', s') ∧ p ≤ p' ∧ p' ≤ p + 4 := by
  cases b with
  | false => exact ⟨a, c, d, p, s, Ev.last fun k => by rw [spec_l1Cur_clue.j0, if_neg (by simp)], by omega, by omega⟩
  | true =>
    obtain ⟨x, p1, s1, e1, _, _, a1, a2⟩ := pick_ok h p s 3 h0 (by omega)
    obtain ⟨y, p2, s2, e2, _, _, b1, b2⟩ := pick_ok h p1 s1 9 (by omega) (by omega)
    exact ⟨a, c, wrap64 (x - wrap64 (Int.tdiv y 8)), p2, s2, Ev.last fun k => by
      rw [spec_l1Cur_clue.j0, if_pos rfl, e1, Option.bind_some]
      dsimp only
      rw [e2, Option.bind_some], by omega, by omega⟩
theorem dclue_ok {l : List Int} (h : okL l) (p s : Int) (h0 : 0 ≤ p) (h1 : p ≤ 40000000) : ∃ a b c p' s', Ev (fun k => spec_l1Cur_clue.f k l p s) (a, b, c, p', s') ∧ p ≤ p' ∧ p' ≤ p + 14 := by
  obtain ⟨x1, p1, s1, e1, _, _, a1, a2⟩ := pick_ok h p s 5 h0 (by omega)
  obtain ⟨x2, p2, s2, e2, _, _, b1, b2⟩ := pick_ok h p1 s1 9 (by omega) (by omega)
  obtain ⟨x3, p3, s3, e3, _, _, c1, c2⟩ := pick_ok h p2 s2 6 (by omega) (by omega)
  obtain ⟨x4, p4, s4, e4, _, _, d1, d2⟩ := pick_ok h p3 s3 9 (by omega) (by omega)
  by_cases c : wrap64 (x1 + wrap64 (Int.tdiv x2 8)) = 1
  · obtain ⟨b, p5, s5, e5, f1, f2⟩ := one_ok h p4 s4 8 (by omega) (by omega)
    obtain ⟨a', b', c', p6, s6, ⟨K, hK⟩, g1, g2⟩ := dclue_j0 h b p5 s5 (wrap64 (x1 + wrap64 (Int.tdiv x2 8))) (wrap64 (x3 - wrap64 (Int.tdiv x4 8))) 0 (by omega) (by omega)
    refine ⟨a', b', c', p6, s6, ⟨K, fun k hk => ?_⟩, by omega, by omega⟩
    have hK := hK k hk
    simp only at hK
    dsimp only
    rw [spec_l1Cur_clue.f, e1, Option.bind_some]
    dsimp only
    rw [e2, Option.bind_some]
    dsimp only
    rw [e3, Option.bind_some]
    dsimp only
    rw [e4, Option.bind_some]
    dsimp only
    rw [if_pos c, e5, Option.bind_some]
    dsimp only
    exact hK
  · obtain ⟨a', b', c', p6, s6, ⟨K, hK⟩, g1, g2⟩ := dclue_j0 h true p4 s4 (wrap64 (x1 + wrap64 (Int.tdiv x2 8))) (wrap64 (x3 - wrap64 (Int.tdiv x4 8))) 0 (by omega) (by omega)
    refine ⟨a', b', c', p6, s6, ⟨K, fun k hk => ?_⟩, by omega, by omega⟩
    have hK := hK k hk
    simp only at hK
    dsimp only
    rw [spec_l1Cur_clue.f, e1, Option.bind_some]
    dsimp only
    rw [e2, Option.bind_some]
    dsimp only
    rw [e3, Option.bind_some]
    dsimp only
    rw [e4, Option.bind_some]
    dsimp only
    rw [if_neg c]
    exact hK

/-! ### after spec_l1Cur_puzzle -/
theorem dpuzzle_l0 {l : List Int} (h : okL l) (r : Int) : ∀ (d : Nat) (L : List S40) (p s : Int), L.length + d = 7 → 0 ≤ p → p + 2 * d ≤ 40000000 → ∃ r' L' p' s', Ev (fun k => spec_l1Cur_puzzle.l0 k l p s r L) (r', L', p', s') ∧ L'.length ≤ 7 ∧ p ≤ p' ∧ p' ≤ p + 2 * d + 2 := by
  intro d
  induction d with
  | zero =>
    intro L p s hL h0 h1
    obtain ⟨x, p1, s1, e1, x0, x1, a1, a2⟩ := pick_ok h p s 2 h0 (by omega)
    refine ⟨r, L, p1, s1, Ev.last fun k => ?_, by omega, by omega, by omega⟩
    rw [spec_l1Cur_puzzle.l0, e1, Option.bind_some]
    dsimp only
    rw [w64 (by omega) (by omega), if_neg (by omega)]
  | succ d ih =>
    intro L p s hL h0 h1
    obtain ⟨x, p1, s1, e1, x0, x1, a1, a2⟩ := pick_ok h p s 2 h0 (by omega)
    by_cases c : (L.length : Int) < 6 + x
    · obtain ⟨r', L', p2, s2, g, hl, b1, b2⟩ := ih (L ++ [⟨4, 0, 1⟩]) p1 s1 (by simp; omega) (by omega) (by omega)
      refine ⟨r', L', p2, s2, Ev.next ⟨0, fun k _ => ?_⟩ g, hl, by omega, by omega⟩
      rw [spec_l1Cur_puzzle.l0, e1, Option.bind_some]
      dsimp only
      rw [w64 (by omega) (by omega), if_pos c, if_pos (by omega)]
    · refine ⟨r, L, p1, s1, Ev.last fun k => ?_, by omega, by omega, by omega⟩
      rw [spec_l1Cur_puzzle.l0, e1, Option.bind_some]
      dsimp only
      rw [w64 (by omega) (by omega), if_neg c]
theorem dpuzzle_ok {l : List Int} (h : okL l) (p s : Int) (h0 : 0 ≤ p) (h1 : p ≤ 30000000) : ∃ r L p' s', Ev (fun k => spec_l1Cur_puzzle.f k l p s) (r, L, p', s') ∧ L.length ≤ 7 ∧ p ≤ p' ∧ p' ≤ p + 40 := by
  obtain ⟨r, L, p1, s1, ⟨K1, g1⟩, hL, a1, a2⟩ := dsure_ok h p s 5 h0 (by omega)
  obtain ⟨x, p2, s2, e2, x0, x1, b1, b2⟩ := pick_ok h p1 s1 12 (by omega) (by omega)
  have start : ∀ k, K1 ≤ k → ∀ R, (if x = 0 then ((spec_l1Cur_among.f l p2 s2 (([(-1), 0, 1, 7, 8, 4611686018427387904] : List Int))).bind fun bt331 => (some (bt331.1, L, bt331.2.1, bt331.2.2))) else (if x = 1 then ((spec_l1Cur_clue.f k l p2 s2).bind fun bt334 => (if L.length < 5864062014805 then (some (r, (L ++ [(⟨bt334.1, bt334.2.1, bt334.2.2.1⟩ : S40)]), bt334.2.2.2.1, bt334.2.2.2.2)) else (none))) else (if x = 2 then (spec_l1Cur_puzzle.l0 k l p2 s2 r L) else (some (r, L, p2, s2))))) = some R → spec_l1Cur_puzzle.f k l p s = some R := by
    intro k hk R hR
    have g1 := g1 k hk
    simp only at g1
    rw [spec_l1Cur_puzzle.f, g1, Option.bind_some]
    dsimp only
    rw [e2, Option.bind_some]
    exact hR
  by_cases c0 : x = 0
  · obtain ⟨t, p3, s3, e3, c1, c2⟩ := among_ok h p2 s2 ([(-1), 0, 1, 7, 8, 4611686018427387904] : List Int) (by simp) (by omega) (by omega)
    exact ⟨t, L, p3, s3, ⟨K1, fun k hk => start k hk _ (by rw [if_pos c0, e3, Option.bind_some])⟩, by omega, by omega, by omega⟩
  · by_cases c1 : x = 1
    · obtain ⟨a, b, c, p3, s3, ⟨K2, g2⟩, d1, d2⟩ := dclue_ok h p2 s2 (by omega) (by omega)
      refine ⟨r, L ++ [⟨a, b, c⟩], p3, s3, ⟨K1 + K2, fun k hk => start k (by omega) _ ?_⟩, by simp; omega, by omega, by omega⟩
      have g2 := g2 k (by omega)
      simp only at g2
      rw [if_neg c0, if_pos c1, g2, Option.bind_some, if_pos (by omega)]
    · by_cases c2 : x = 2
      · obtain ⟨r', L', p3, s3, ⟨K2, g2⟩, hl, d1, d2⟩ := dpuzzle_l0 h r (7 - L.length) L p2 s2 (by omega) (by omega) (by omega)
        refine ⟨r', L', p3, s3, ⟨K1 + K2, fun k hk => start k (by omega) _ ?_⟩, hl, by omega, by omega⟩
        have g2 := g2 k (by omega)
        simp only at g2
        rw [if_neg c0, if_neg c1, if_pos c2, g2]
      · exact ⟨r, L, p2, s2, ⟨K1, fun k hk => start k hk _ (by rw [if_neg c0, if_neg c1, if_neg c2])⟩, by omega, by omega, by omega⟩

/-! ### after spec_DrawMakePuzzle -/
theorem drawMake_ok {l : List Int} (h : okL l) : ∃ t a b, Ev (fun k => spec_DrawMakePuzzle.f k l) (t, a, b) ∧ t.size ≤ 20 := by
  obtain ⟨c, p1, s1, e1, a1, a2⟩ := one_ok h 0 0 12 (by omega) (by omega)
  cases c with
  | true =>
    obtain ⟨t, p2, s2, e2, ht, b1, b2⟩ := of_ok h p1 s1 ([(⟨#[]⟩ : ByteArray), (⟨#[48, 49, 120]⟩ : ByteArray), (⟨#[48, 48, 48, 48, 48, 48, 48, 48]⟩ : ByteArray), (⟨#[49, 49, 49, 49, 49, 49, 49]⟩ : ByteArray)] : List ByteArray) 20 (by decide) (by simp) (by omega) (by omega)
    obtain ⟨a, p3, s3, e3, c1, c2⟩ := among_ok h p2 s2 ([(-1), 6, 7] : List Int) (by simp) (by omega) (by omega)
    obtain ⟨b, p4, s4, e4, d1, d2⟩ := among_ok h p3 s3 ([(-1), 9999, 10000] : List Int) (by simp) (by omega) (by omega)
    refine ⟨t, a, b, ⟨0, fun k _ => ?_⟩, ht⟩
    dsimp only
    rw [spec_DrawMakePuzzle.f, e1, Option.bind_some, if_pos rfl]
    dsimp only
    rw [e2, Option.bind_some]
    dsimp only
    rw [e3, Option.bind_some]
    dsimp only
    rw [e4, Option.bind_some]
  | false =>
    obtain ⟨t, p2, s2, ⟨K, g⟩, ht, b1, b2⟩ := dhidden_ok h p1 s1 (by omega) (by omega)
    obtain ⟨x, p3, s3, e3, _, _, c1, c2⟩ := pick_ok h p2 s2 7 (by omega) (by omega)
    obtain ⟨y, p4, s4, e4, _, _, d1, d2⟩ := pick_ok h p3 s3 10000 (by omega) (by omega)
    refine ⟨t, x, y, ⟨K, fun k hk => ?_⟩, by have := (hidden_facts ht).2.2; omega⟩
    have g := g k hk
    simp only at g
    dsimp only
    rw [spec_DrawMakePuzzle.f, e1, Option.bind_some, if_neg (by simp)]
    dsimp only
    rw [g, Option.bind_some]
    dsimp only
    rw [e3, Option.bind_some]
    dsimp only
    rw [e4, Option.bind_some]

/-! ### after spec_DrawHarderPuzzle -/
theorem drawHarder_ok {l : List Int} (h : okL l) : ∃ r L, Ev (fun k => spec_DrawHarderPuzzle.f k l) (r, L) ∧ L.length ≤ 7 := by
  obtain ⟨c, p1, s1, e1, a1, a2⟩ := one_ok h 0 0 4 (by omega) (by omega)
  cases c with
  | true =>
    obtain ⟨r, L, p2, s2, ⟨K, g⟩, hL, b1, b2⟩ := dpuzzle_ok h p1 s1 (by omega) (by omega)
    refine ⟨r, L, ⟨K, fun k hk => ?_⟩, hL⟩
    have g := g k hk
    simp only at g
    dsimp only
    rw [spec_DrawHarderPuzzle.f, e1, Option.bind_some, if_pos rfl]
    dsimp only
    rw [g, Option.bind_some]
  | false =>
    obtain ⟨t, p2, s2, ⟨K1, g1⟩, ht, b1, b2⟩ := dhidden_ok h p1 s1 (by omega) (by omega)
    obtain ⟨x, p3, s3, e3, _, _, c1, c2⟩ := pick_ok h p2 s2 3 (by omega) (by omega)
    obtain ⟨y, p4, s4, e4, _, _, d1, d2⟩ := pick_ok h p3 s3 10000 (by omega) (by omega)
    obtain ⟨K2, g2⟩ := specMake_ev t x y
    obtain ⟨hst, hs1, hs7⟩ := hidden_facts ht
    obtain ⟨K3, g3⟩ := pzOf_ev t 3 0 hs7 hst (by simp [okArg])
    have hL := makeR_length t x y
    obtain ⟨z, hz⟩ : ∃ z, z = ((3 : Int), (if ((3 : Nat) : Int) = 1 then valB 1 0 t else ((0 : Nat) : Int)), (if ((3 : Nat) : Int) = 1 then 0 else valB ((3 : Nat) : Int) ((0 : Nat) : Int) t)) := ⟨_, rfl⟩
    have g3 : ∀ k, K3 ≤ k → spec_pzOf.f k 3 0 t = some z := fun k hk => by rw [hz]; exact g3 k hk
    clear hz
    refine ⟨(makeR t x y).1, (makeR t x y).2.1 ++ [⟨z.1, z.2.1, z.2.2⟩], ⟨K1 + K2 + K3, fun k hk => ?_⟩, by simp; omega⟩
    have g1 := g1 k (by omega)
    have g2 := g2 k (by omega)
    have g3 := g3 k (by omega)
    simp only at g1 g2 g3
    dsimp only
    rw [spec_DrawHarderPuzzle.f, e1, Option.bind_some, if_neg (by simp)]
    dsimp only
    rw [g1, Option.bind_some]
    dsimp only
    rw [e3, Option.bind_some]
    dsimp only
    rw [e4, Option.bind_some]
    dsimp only
    rw [g2, Option.bind_some]
    rw [g3, Option.bind_some, if_pos (by omega)]

/-! ### after spec_DrawAddClue -/
theorem drawAdd_ok {l : List Int} (h : okL l) : ∃ r L a b c, Ev (fun k => spec_DrawAddClue.f k l) (r, L, a, b, c) ∧ L.length ≤ 7 := by
  obtain ⟨r, L, p1, s1, ⟨K1, g1⟩, hL, a1, a2⟩ := dpuzzle_ok h 0 0 (by omega) (by omega)
  obtain ⟨a, b, c, p2, s2, ⟨K2, g2⟩, b1, b2⟩ := dclue_ok h p1 s1 (by omega) (by omega)
  refine ⟨r, L, a, b, c, ⟨K1 + K2, fun k hk => ?_⟩, hL⟩
  have g1 := g1 k (by omega)
  have g2 := g2 k (by omega)
  simp only at g1 g2
  dsimp only
  rw [spec_DrawAddClue.f, g1, Option.bind_some]
  dsimp only
  rw [g2, Option.bind_some]

/-! ### after spec_DrawDropClue -/
theorem drawDrop_ok {l : List Int} (h : okL l) : ∃ r L a, Ev (fun k => spec_DrawDropClue.f k l) (r, L, a) ∧ L.length ≤ 7 := by
  obtain ⟨r, L, p1, s1, ⟨K1, g1⟩, hL, a1, a2⟩ := dpuzzle_ok h 0 0 (by omega) (by omega)
  obtain ⟨x, p2, s2, e2, _, _, b1, b2⟩ := pick_ok h p1 s1 6 (by omega) (by omega)
  obtain ⟨y, p3, s3, e3, _, _, c1, c2⟩ := pick_ok h p2 s2 9 (by omega) (by omega)
  refine ⟨r, L, wrap64 (x - wrap64 (Int.tdiv y 8)), ⟨K1, fun k hk => ?_⟩, hL⟩
  have g1 := g1 k hk
  simp only at g1
  dsimp only
  rw [spec_DrawDropClue.f, g1, Option.bind_some]
  dsimp only
  rw [e2, Option.bind_some]
  dsimp only
  rw [e3, Option.bind_some]

/-! ### after spec_MakePuzzle -/
theorem drawDoes_j0 {l : List Int} (h : okL l) (x : ByteArray) (b : Bool) (p s r : Int) (L : List S40) (hx : x.size ≤ 20) (hb : b = true → L.length = 1) (h0 : 0 ≤ p) (h1 : p ≤ 100) : ∃ a b' c t, Ev (fun k => spec_DrawDoesFit.j0 k x b l p s r L) (a, b', c, t) ∧ t.size ≤ 20 := by
  cases b with
  | true =>
    have hl := hb rfl
    exact ⟨(rd_T40 L 0).f0, (rd_T40 L 0).f1, (rd_T40 L 0).f2, x, Ev.last fun k => by rw [spec_DrawDoesFit.j0, if_pos rfl, if_pos (by omega)], hx⟩
  | false =>
    obtain ⟨c, p1, s1, e1, a1, a2⟩ := one_ok h p s 10 h0 (by omega)
    cases c with
    | true =>
      obtain ⟨t, p2, s2, e2, ht, b1, b2⟩ := of_ok h p1 s1 ([(⟨#[]⟩ : ByteArray), (⟨#[48, 49, 120]⟩ : ByteArray), (⟨#[48, 48, 48, 48, 48, 48, 48, 48]⟩ : ByteArray), (⟨#[49, 49, 49, 49, 49, 49, 49]⟩ : ByteArray)] : List ByteArray) 20 (by decide) (by simp) (by omega) (by omega)
      obtain ⟨a, b', c', p3, s3, ⟨K, g⟩, c1, c2⟩ := dclue_ok h p2 s2 (by omega) (by omega)
      refine ⟨a, b', c', t, ⟨K + 1, fun k hk => ?_⟩, ht⟩
      obtain ⟨k, rfl⟩ : ∃ z, k = z + 1 := ⟨k - 1, by omega⟩
      have g := g k (by omega)
      simp only at g
      dsimp only
      rw [spec_DrawDoesFit.j0, if_neg (by simp), e1, Option.bind_some, if_pos rfl]
      dsimp only
      rw [e2, Option.bind_some]
      dsimp only
      rw [g, Option.bind_some]
    | false =>
      obtain ⟨a, b', c', p3, s3, ⟨K, g⟩, c1, c2⟩ := dclue_ok h p1 s1 (by omega) (by omega)
      refine ⟨a, b', c', x, ⟨K + 1, fun k hk => ?_⟩, hx⟩
      obtain ⟨k, rfl⟩ : ∃ z, k = z + 1 := ⟨k - 1, by omega⟩
      have g := g k (by omega)
      simp only at g
      dsimp only
      rw [spec_DrawDoesFit.j0, if_neg (by simp), e1, Option.bind_some, if_neg (by simp)]
      dsimp only
      rw [g, Option.bind_some]
theorem drawDoes_ok {l : List Int} (h : okL l) : ∃ a b c t, Ev (fun k => spec_DrawDoesFit.f k l) (a, b, c, t) ∧ t.size ≤ 20 := by
  obtain ⟨t, p1, s1, ⟨K1, g1⟩, ht, a1, a2⟩ := dhidden_ok h 0 0 (by omega) (by omega)
  obtain ⟨y, p2, s2, e2, _, _, b1, b2⟩ := pick_ok h p1 s1 10000 (by omega) (by omega)
  obtain ⟨K2, g2⟩ := specMake_ev t 1 y
  have h20 : t.size ≤ 20 := by have := (hidden_facts ht).2.2; omega
  have hone : (makeR t 1 y).2.2 = true → (makeR t 1 y).2.1.length = 1 := by
    intro hm
    unfold makeR at hm ⊢
    split
    · dsimp only
      rw [makeL_length]
      rfl
    · rename_i hn
      rw [if_neg hn] at hm
      cases hm
  cases c : (makeR t 1 y).2.2 with
  | true =>
    obtain ⟨b, p3, s3, e3, c1, c2⟩ := one_ok h p2 s2 3 (by omega) (by omega)
    obtain ⟨a, b', c', x, ⟨K3, g3⟩, hx⟩ := drawDoes_j0 h t b p3 s3 (makeR t 1 y).1 (makeR t 1 y).2.1 h20 (fun _ => hone c) (by omega) (by omega)
    refine ⟨a, b', c', x, ⟨K1 + K2 + K3, fun k hk => ?_⟩, hx⟩
    have g1 := g1 k (by omega)
    have g2 := g2 k (by omega)
    have g3 := g3 k (by omega)
    simp only at g1 g2 g3
    dsimp only
    rw [spec_DrawDoesFit.f, g1, Option.bind_some]
    dsimp only
    rw [e2, Option.bind_some]
    dsimp only
    rw [g2, Option.bind_some, if_pos c, e3, Option.bind_some]
    exact g3
  | false =>
    obtain ⟨a, b', c', x, ⟨K3, g3⟩, hx⟩ := drawDoes_j0 h t false p2 s2 (makeR t 1 y).1 (makeR t 1 y).2.1 h20 (fun hh => by cases hh) (by omega) (by omega)
    refine ⟨a, b', c', x, ⟨K1 + K2 + K3, fun k hk => ?_⟩, hx⟩
    have g1 := g1 k (by omega)
    have g2 := g2 k (by omega)
    have g3 := g3 k (by omega)
    simp only at g1 g2 g3
    dsimp only
    rw [spec_DrawDoesFit.f, g1, Option.bind_some]
    dsimp only
    rw [e2, Option.bind_some]
    dsimp only
    rw [g2, Option.bind_some, if_neg (by rw [c]; simp)]
    exact g3

/-! ### after spec_DrawIsClue -/
theorem drawIsClue_ok {l : List Int} (h : okL l) : ∃ r a b c, Ev (fun k => spec_DrawIsClue.f k l) (r, a, b, c) := by
  obtain ⟨q, p1, s1, e1, a1, a2⟩ := one_ok h 0 0 4 (by omega) (by omega)
  cases q with
  | true =>
    obtain ⟨x1, p2, s2, e2, b1, b2⟩ := among_ok h p1 s1 ([(-1), 0, 1, 3, 7, 8, 4611686018427387904] : List Int) (by simp) (by omega) (by omega)
    obtain ⟨x2, p3, s3, e3, _, _, c1, c2⟩ := pick_ok h p2 s2 6 (by omega) (by omega)
    obtain ⟨x3, p4, s4, e4, _, _, d1, d2⟩ := pick_ok h p3 s3 9 (by omega) (by omega)
    obtain ⟨x4, p5, s5, e5, f1, f2⟩ := among_ok h p4 s4 ([(-1), 0, 1, 2, 7, 8, 9, 10, 127, 128, 4611686018427387904] : List Int) (by simp) (by omega) (by omega)
    obtain ⟨x5, p6, s6, e6, g1, g2⟩ := among_ok h p5 s5 ([(-1), 0, 1, 2, 8, 127, 128] : List Int) (by simp) (by omega) (by omega)
    refine ⟨x1, wrap64 (x2 - wrap64 (Int.tdiv x3 8)), x4, x5, ⟨0, fun k _ => ?_⟩⟩
    dsimp only
    rw [spec_DrawIsClue.f, e1, Option.bind_some, if_pos rfl]
    dsimp only
    rw [e2, Option.bind_some]
    dsimp only
    rw [e3, Option.bind_some]
    dsimp only
    rw [e4, Option.bind_some]
    dsimp only
    rw [e5, Option.bind_some]
    dsimp only
    rw [e6, Option.bind_some]
  | false =>
    obtain ⟨x2, p3, s3, e3, _, _, c1, c2⟩ := pick_ok h p1 s1 7 (by omega) (by omega)
    obtain ⟨a, b, c, p4, s4, ⟨K, g⟩, d1, d2⟩ := dclue_ok h p3 s3 (by omega) (by omega)
    refine ⟨wrap64 (1 + x2), a, b, c, ⟨K, fun k hk => ?_⟩⟩
    have g := g k hk
    simp only at g
    dsimp only
    rw [spec_DrawIsClue.f, e1, Option.bind_some, if_neg (by simp)]
    dsimp only
    rw [e3, Option.bind_some]
    dsimp only
    rw [g, Option.bind_some]

end Go.Proofs.YtpdkjehplfgjcabGreatDoor.PHid

namespace Go.Proofs.YtpdkjehplfgjcabGreatDoor.Pure
open Go.RowKit Go.Proofs.YtpdkjehplfgjcabGreatDoor.PHid Go.Proofs.YtpdkjehplfgjcabGreatDoorW.PrintWords Go.Proofs.YtpdkjehplfgjcabGreatDoorW.PrintLast Go.Proofs.YtpdkjehplfgjcabGreatDoorW.PrintMore
set_option linter.unusedVariables false
set_option linter.unusedSimpArgs false
set_option maxRecDepth 100000
theorem j8_ev (a : Int) (b : Bool) (r : Int) (l : List S40) (hb : b = true → (dropR r l a).2.2 = true ∧ a = (l.length : Int) - 1) :
    Ev (fun k => laws_FnStatesHidden.j8 k a b r l (dropR r l a).1 (dropR r l a).2.1) true := by
  cases b with
  | false => exact Ev.last fun k => by rw [laws_FnStatesHidden.j8, if_neg (by simp)]
  | true =>
    obtain ⟨h1, h2⟩ := hb rfl
    obtain ⟨hp, h0, hlt, h6, e⟩ := drop_facts h1
    obtain ⟨i, rfl⟩ : ∃ i : Nat, a = i := ⟨a.toNat, by omega⟩
    have hi : i + 1 = l.length := by omega
    obtain ⟨K1, e1⟩ := implAdd_all r (l.eraseIdx i) (l[i]'(by omega)).f0 (l[i]'(by omega)).f1 (l[i]'(by omega)).f2
    rw [add_back hp i hi] at e1
    obtain ⟨K2, e2⟩ := xPuzzle_ev r l (by omega)
    refine ⟨K1 + K2 + 1, fun k hk => ?_⟩
    obtain ⟨k, rfl⟩ : ∃ z, k = z + 1 := ⟨k - 1, by omega⟩
    have e1 := e1 k (by omega)
    have e2 := e2 k (by omega)
    simp only at e1 e2
    dsimp only
    rw [e, laws_FnStatesHidden.j8, if_pos rfl, if_pos (by omega), if_pos hlt, rd_clue l i (by omega)]
    dsimp only
    rw [Int.toNat_natCast, e1, Option.bind_some, if_pos rfl, e2, Option.bind_some]
theorem j7_ev (a : Int) (r : Int) (l : List S40) : Ev (fun k => laws_FnStatesHidden.j7 k a (dropR r l a).2.2 r l (dropR r l a).1 (dropR r l a).2.1) true := by
  cases c : (dropR r l a).2.2 with
  | false =>
    refine Ev.next ⟨0, fun k _ => ?_⟩ (j8_ev a false r l (fun h => by cases h))
    rw [laws_FnStatesHidden.j7, if_neg (by simp)]
  | true =>
    refine Ev.next ⟨0, fun k _ => ?_⟩ (j8_ev a (a == wrap64 ((l.length : Int) - 1)) r l (fun h => ⟨c, ?_⟩))
    · rw [laws_FnStatesHidden.j7, if_pos rfl]
    · obtain ⟨_, _, _, h6, _⟩ := drop_facts c
      rw [beq_iff_eq, w64 (by omega) (by omega)] at h
      exact h
theorem j6_ev (a rp : Int) (lp : List S40) (c0 c1 c2 rt : Int) (lt : List S40) :
    Ev (fun k => laws_FnStatesHidden.j6 k (addR rp lp c0 c1 c2).2.2 a (dropR rt lt a).2.2 false rp lp c0 c1 c2 (addR rp lp c0 c1 c2).1 (addR rp lp c0 c1 c2).2.1 rt lt (dropR rt lt a).1 (dropR rt lt a).2.1) true := by
  cases c : (addR rp lp c0 c1 c2).2.2 with
  | false =>
    refine Ev.next ⟨0, fun k _ => ?_⟩ (j7_ev a rt lt)
    rw [laws_FnStatesHidden.j6, if_neg (by simp), if_neg (by simp)]
  | true =>
    obtain ⟨hp, hc, h6, e⟩ := add_facts c
    obtain ⟨h1, h7, _, hcl⟩ := puzzle_of hp
    have hp' : isPuzzleB rp (lp ++ [⟨c0, c1, c2⟩]) = true := puzzle_mk h1 h7 (by simp; omega) (fun x hx => by
      rcases List.mem_append.1 hx with hx | hx
      · exact hcl x hx
      · rw [List.mem_singleton] at hx
        subst hx
        simp only [isClueB, Bool.and_eq_true] at hc
        exact hc.2)
    have ed : dropR rp (lp ++ [⟨c0, c1, c2⟩]) (lp.length : Int) = (rp, lp, true) := by
      unfold dropR
      have hl : (lp ++ [(⟨c0, c1, c2⟩ : S40)]).length = lp.length + 1 := by simp
      rw [if_pos (by rw [hp', hl, Bool.true_and, w64 (by omega) (by omega)]; exact inB_of (by omega) (by omega)), Int.toNat_natCast, List.eraseIdx_append_of_length_le (Nat.le_refl _)]
      simp
    obtain ⟨K2, e2⟩ := xPuzzle_ev rp lp (by omega)
    refine Ev.next ⟨K2, fun k hk => ?_⟩ (j7_ev a rt lt)
    have e2 := e2 k (by omega)
    simp only at e2
    rw [e, laws_FnStatesHidden.j6, if_neg (by simp), if_pos rfl]
    dsimp only
    rw [implDrop_all, ed, Option.bind_some, if_pos rfl]
    dsimp only
    rw [e2, Option.bind_some, if_pos rfl, if_pos (by omega), if_pos (by simp; omega), rd_clue _ lp.length (by simp)]
    simp
theorem j5_ev (x : List Int) (hx : okL x) : Ev (fun k => laws_FnStatesHidden.j5 k x) true := by
  obtain ⟨rp, lp, c0, c1, c2, ⟨D1, d1⟩, hp⟩ := drawAdd_ok hx
  obtain ⟨rt, lt, a, ⟨D2, d2⟩, ht⟩ := drawDrop_ok hx
  obtain ⟨b0, b1, b2, y, ⟨D3, d3⟩, hy⟩ := drawDoes_ok hx
  obtain ⟨n, e0, e1, e2, ⟨D4, d4⟩⟩ := drawIsClue_ok hx
  obtain ⟨K1, f1⟩ := implAdd_all rp lp c0 c1 c2
  obtain ⟨K2, f2⟩ := specAdd_all rp lp c0 c1 c2 (by omega)
  obtain ⟨K3, f3⟩ := specDrop_all rt lt a (by omega)
  obtain ⟨K4, f4⟩ := implDoes_ev b0 b1 b2 y (by omega)
  obtain ⟨K5, f5⟩ := specDoes_ev b0 b1 b2 y
  obtain ⟨K6, f6⟩ := implIsClue_ev n e0 e1 e2
  obtain ⟨K7, f7⟩ := specIsClue_ev n e0 e1 e2
  obtain ⟨K8, f8⟩ := implIsClue_ev (y.size : Int) b0 b1 b2
  have hA : (addR rp lp c0 c1 c2).2.1.length ≤ 8 := by
    unfold addR
    split
    · simp; omega
    · simp
  have hD : (dropR rt lt a).2.1.length ≤ 8 := by
    unfold dropR
    split
    · have := List.length_eraseIdx_le lt a.toNat
      dsimp only; omega
    · simp
  obtain ⟨K9, f9⟩ := xPuzzle_ev (addR rp lp c0 c1 c2).1 (addR rp lp c0 c1 c2).2.1 (by omega)
  obtain ⟨K10, f10⟩ := xPuzzle_ev (dropR rt lt a).1 (dropR rt lt a).2.1 (by omega)
  refine Ev.next ⟨D1 + D2 + D3 + D4 + K1 + K2 + K3 + K4 + K5 + K6 + K7 + K8 + K9 + K10, fun k hk => ?_⟩ (j6_ev a rp lp c0 c1 c2 rt lt)
  have d1 := d1 k (by omega)
  have d2 := d2 k (by omega)
  have d3 := d3 k (by omega)
  have d4 := d4 k (by omega)
  have f1 := f1 k (by omega)
  have f2 := f2 k (by omega)
  have f3 := f3 k (by omega)
  have f4 := f4 k (by omega)
  have f5 := f5 k (by omega)
  have f6 := f6 k (by omega)
  have f7 := f7 k (by omega)
  have f8 := f8 k (by omega)
  have f9 := f9 k (by omega)
  have f10 := f10 k (by omega)
  simp only at d1 d2 d3 d4 f1 f2 f3 f4 f5 f6 f7 f8 f9 f10
  rw [laws_FnStatesHidden.j5, d1, Option.bind_some]
  dsimp only
  rw [f1, Option.bind_some, f2, Option.bind_some, d2, Option.bind_some]
  dsimp only
  rw [implDrop_all, Option.bind_some, f3, Option.bind_some, d3, Option.bind_some]
  dsimp only
  rw [f4, Option.bind_some, f5, Option.bind_some, d4, Option.bind_some]
  dsimp only
  rw [bne_self_eq_false, if_neg (by simp), f9, Option.bind_some, if_pos rfl, bne_self_eq_false, if_neg (by simp), f10, Option.bind_some, if_pos rfl, bne_self_eq_false, if_neg (by simp), bne_self_eq_false, if_neg (by simp), f6, Option.bind_some, f7, Option.bind_some, bne_self_eq_false, if_neg (by simp)]
  cases c : (doesR b0 b1 b2 y).2 with
  | false => rw [if_neg (by simp)]
  | true =>
    have hcl : isClueB (y.size : Int) b0 b1 b2 = true := by
      unfold doesR at c
      by_cases q : (hiddenB y && clueB y.size b0 b1 b2) = true
      · simp only [Bool.and_eq_true] at q
        obtain ⟨_, h1, h7⟩ := hidden_facts q.1
        simp [isClueB, inB_of (show (1 : Int) ≤ (y.size : Int) by omega) (show (y.size : Int) ≤ 7 by omega), q.2]
      · rw [if_neg q] at c; cases c
    rw [if_pos rfl, f8, Option.bind_some, hcl]
    rfl
theorem j4_ev (x : List Int) (hx : okL x) (rq : Int) (lq : List S40) :
    Ev (fun k => laws_FnStatesHidden.j4 k x (hardR rq lq).2.2 false rq lq (hardR rq lq).1 (hardR rq lq).2.1) true := by
  have h6 := j5_ev x hx
  by_cases c : isPuzzleB rq lq = true ∧ (solB rq lq).length = 1
  · have e : hardR rq lq = (rq, hardL rq lq.length lq 0, true) := by unfold hardR; rw [if_pos c]
    obtain ⟨g1, g2, _⟩ := hard_facts rq lq.length lq 0 c.1 (by omega) c.2 (fun j hj => absurd hj (by omega))
    have s1 : solsR rq lq = (solB rq lq, true) := by unfold solsR; rw [if_pos c.1]
    have s2 : solsR rq (hardL rq lq.length lq 0) = (solB rq lq, true) := by unfold solsR; rw [if_pos g1, g2]
    have hl := hardL_length rq lq.length lq 0
    obtain ⟨K1, f1⟩ := implNeed_ev rq (hardL rq lq.length lq 0)
    rw [need_hard c.1 c.2] at f1
    obtain ⟨K2, f2⟩ := xTexts_ev (solB rq lq) (by omega)
    refine Ev.next ⟨K1 + K2, fun k hk => ?_⟩ h6
    have f1 := f1 k (by omega)
    have f2 := f2 k (by omega)
    simp only at f1 f2
    rw [e, laws_FnStatesHidden.j4, if_neg (by simp), if_pos rfl]
    dsimp only
    rw [implSolutions_eq, s1, Option.bind_some, implSolutions_eq, s2, Option.bind_some, f1, Option.bind_some, if_pos rfl, if_pos rfl, f2, Option.bind_some, if_pos rfl, if_pos rfl, if_pos (by simp), if_neg (by omega)]
  · have e : hardR rq lq = (0, [], false) := by unfold hardR; rw [if_neg c]
    refine Ev.next ⟨0, fun k _ => ?_⟩ h6
    rw [e, laws_FnStatesHidden.j4, if_neg (by simp), if_neg (by simp)]
theorem j3_ev (x : List Int) (hx : okL x) : Ev (fun k => laws_FnStatesHidden.j3 k x) true := by
  obtain ⟨rq, lq, ⟨D1, d1⟩, hq⟩ := drawHarder_ok hx
  have h5 := j4_ev x hx rq lq
  obtain ⟨K1, f1⟩ := implHard_ev rq lq
  obtain ⟨K2, f2⟩ := specHard_all rq lq (by omega)
  have hl : (hardR rq lq).2.1.length ≤ 6 := by
    unfold hardR
    split
    · rename_i h
      have h1 := (puzzle_of h.1).2.2.1
      have := hardL_length rq lq.length lq 0
      dsimp only; omega
    · simp
  obtain ⟨K3, f3⟩ := xPuzzle_ev (hardR rq lq).1 (hardR rq lq).2.1 (by omega)
  refine Ev.next ⟨D1 + K1 + K2 + K3, fun k hk => ?_⟩ h5
  have d1 := d1 k (by omega)
  have f1 := f1 k (by omega)
  have f2 := f2 k (by omega)
  have f3 := f3 k (by omega)
  simp only at d1 f1 f2 f3
  rw [laws_FnStatesHidden.j3, d1, Option.bind_some]
  dsimp only
  rw [f1, Option.bind_some, f2, Option.bind_some, implIsSolved_eq, Option.bind_some, bne_self_eq_false, if_neg (by simp), f3, Option.bind_some, if_pos rfl]
  cases c : isPuzzleB rq lq with
  | false =>
    have e1 : isSolvedR rq lq = (false, false) := by unfold isSolvedR; rw [c]; rfl
    have e2 : (hardR rq lq).2.2 = false := by unfold hardR; rw [c]; rfl
    rw [e1, if_neg (by simp), e2]
    rfl
  | true =>
    have e1 : isSolvedR rq lq = (decide ((solB rq lq).length = 1), true) := by unfold isSolvedR; rw [c]; rfl
    have e2 : (hardR rq lq).2.2 = decide ((solB rq lq).length = 1) := by
      unfold hardR
      by_cases q : (solB rq lq).length = 1
      · rw [if_pos ⟨c, q⟩, decide_eq_true q]
      · rw [if_neg (fun h => q h.2), decide_eq_false q]
    rw [e1, if_pos rfl, e2, bne_self_eq_false]
theorem l0_ev (s : ByteArray) (x : List Int) (hs : hiddenB s = true) (hx : okL x) : ∀ (d i : Nat), i + d = s.size →
    Ev (fun k => laws_FnStatesHidden.l0 k x s (movesI s) s (i : Int)) true := by
  obtain ⟨hst, h1, h7⟩ := hidden_facts hs
  obtain ⟨_, _, h3, h4⟩ := state_facts hst
  have hs2 : s.size ≤ 1048576 := by omega
  have hml : (movesI s).length ≤ s.size := by
    unfold movesI movesL
    rw [List.length_map]
    exact Nat.le_trans (List.length_filter_le _ _) (by rw [List.length_range]; omega)
  intro d
  induction d with
  | zero =>
    intro i hi
    refine Ev.next ⟨0, fun k _ => ?_⟩ (j3_ev x hx)
    rw [laws_FnStatesHidden.l0, if_neg (by omega)]
  | succ d ih =>
    intro i hi
    obtain ⟨K1, f1⟩ := xHas_ev (movesI s) (i : Int) (by omega)
    rw [moves_mem hst i (by omega)] at f1
    have ew : wrap64 ((i : Int) + 1) = ((i + 1 : Nat) : Int) := by rw [w64 (by omega) (by omega)]; omega
    have q1 : (i : Int) < (s.size : Int) := by omega
    have q2 : (0 : Int) ≤ (i : Int) := by omega
    have q3 : (i : Int) < 1000000000 := by omega
    have q4 : i < s.size := by omega
    have q5 := ih (i + 1) (by omega)
    have hbt : bt s (i : Int) < 128 := by
      rw [bt_nat s i (by omega)]
      have := List.all_eq_true.1 h3 _ (List.getElem_mem (show i < s.data.toList.length by omega))
      rcases bit_cases this with e | e <;> rw [e] <;> decide
    have f2 := implDoes_ev 4 (i : Int) (if canB s (i : Int) = true then 1 else 0) s hs2
    have e4 := does_move hs i q4 (canB s (i : Int)) rfl
    generalize canB s (i : Int) = cb at f1 f2 e4 ⊢
    rw [e4] at f2
    obtain ⟨K2, f2⟩ := f2
    refine Ev.next ⟨K1 + K2, fun k hk => ?_⟩ q5
    have f1 := f1 k (Nat.le_trans (Nat.le_add_right _ _) hk)
    have f2 := f2 k (Nat.le_trans (Nat.le_add_left _ _) hk)
    simp only at f1 f2
    rw [laws_FnStatesHidden.l0, if_pos q1, if_pos q2, if_pos hbt, if_pos q3, f1, Option.bind_some]
    cases cb with
    | true =>
      rw [if_pos rfl] at f2
      rw [if_pos rfl, f2, Option.bind_some, if_pos rfl, if_pos rfl, ew]
    | false =>
      rw [if_neg (by simp)] at f2
      rw [if_neg (by simp), f2, Option.bind_some, if_pos rfl, if_pos rfl, ew]
theorem j0_ev (s : ByteArray) (a1 a2 : Int) (x : List Int) (hx : okL x) :
    Ev (fun k => laws_FnStatesHidden.j0 k x s a1 (makeR s a1 a2).2.2 false (makeR s a1 a2).1 (makeR s a1 a2).2.1) true := by
  cases c : (makeR s a1 a2).2.2 with
  | false =>
    refine Ev.next ⟨0, fun k _ => ?_⟩ (j3_ev x hx)
    rw [laws_FnStatesHidden.j0, if_neg (by simp), if_neg (by simp)]
  | true =>
    obtain ⟨hs, h0, h6, e⟩ := made_facts c
    obtain ⟨hst, h1, h7⟩ := hidden_facts hs
    obtain ⟨g1, g2⟩ := made_ok hs a1.toNat a2.toNat (by omega)
    have hlen := makeL_length s a1.toNat a2.toNat []
    rw [e]
    dsimp only
    have hmem := solB_self hs (makeL s a1.toNat a2.toNat []) g2
    generalize makeL s a1.toNat a2.toNat [] = m at g1 g2 hlen hmem ⊢
    have s1 : solsR (s.size : Int) m = (solB (s.size : Int) m, true) := by unfold solsR; rw [if_pos g1]
    have hsl := solB_length (s.size : Int) m
    have hp7 := two7 h7
    rw [Int.toNat_natCast] at hsl
    obtain ⟨K1, f1⟩ := number_ev hst
    obtain ⟨K2, f2⟩ := implDoes_ev 3 0 (grN s.data.toList : Int) s (by omega)
    rw [does_num hs] at f2
    obtain ⟨K3, f3⟩ := implDoes_ev 1 (onN s : Int) 0 s (by omega)
    rw [does_on hs] at f3
    obtain ⟨K4, f4⟩ := implMoves_ev s (by omega)
    have em : movesR s = (movesI s, true) := by unfold movesR; rw [if_pos hst]
    rw [em] at f4
    obtain ⟨K5, f5⟩ := xText_ev (solB (s.size : Int) m) s (by omega)
    rw [decide_eq_true hmem] at f5
    obtain ⟨K6, f6⟩ := l0_ev s x hs hx s.size 0 (by omega)
    refine ⟨K1 + K2 + K3 + K4 + K5 + K6 + 2, fun k hk => ?_⟩
    obtain ⟨k, rfl⟩ : ∃ z, k = z + 2 := ⟨k - 2, by omega⟩
    have f1 := f1 (k + 1) (by omega)
    have f2 := f2 (k + 1) (by omega)
    have f3 := f3 (k + 1) (by omega)
    have f4 := f4 (k + 1) (by omega)
    have f5 := f5 (k + 1) (by omega)
    have f6 := f6 k (by omega)
    simp only at f1 f2 f3 f4 f5 f6
    have fN : impl_NumberOfState.f (k + 1) s = some ((grN s.data.toList : Int), true) := by
      rw [impl_NumberOfState.f, isState_eq s (by omega), hst, Option.bind_some, if_pos rfl, f1, Option.bind_some]
    dsimp only
    rw [laws_FnStatesHidden.j0, if_neg (by simp), if_pos rfl, implSolutions_eq, s1, Option.bind_some, fN, Option.bind_some]
    dsimp only
    rw [f2, Option.bind_some, countOn_eq s (by omega) hst, Option.bind_some]
    dsimp only
    rw [f3, Option.bind_some, f4, Option.bind_some, impl_IsPuzzle.f, g1, Option.bind_some, if_pos rfl, if_pos (by simp at hlen; omega), if_pos rfl, f5, Option.bind_some, if_pos rfl, if_pos rfl, if_pos rfl, if_pos rfl, if_pos rfl, if_pos rfl, if_pos rfl]
    dsimp only
    rw [laws_FnStatesHidden.j1, if_neg (by simp)]
    exact f6
theorem u8_wf {a : Int} (h : (Lit.int .u8 a).wf = true) : 0 ≤ a ∧ a ≤ 255 := by
  have h2 : IntKind.u8.min ≤ a ∧ a ≤ IntKind.u8.max := by simpa [Lit.wf] using h
  have e1 : IntKind.u8.min = 0 := by decide
  have e2 : IntKind.u8.max = 255 := by decide
  omega
theorem FnStatesHidden_pure (l0 : List Int) (l1 : List Int) (y0 : l0.length ≤ 9223372036854775807) (y1 : l1.length ≤ 9223372036854775807) (o0 : (∀ a ∈ l0, (Lit.int .u8 a).wf = true)) (o1 : (∀ a ∈ l1, (Lit.int .u8 a).wf = true)) : ∃ k, laws_FnStatesHidden.f k l0 l1 = some true := by
  by_cases hb : laws_big.f l0 l1 = some true
  · exact ⟨0, by rw [laws_FnStatesHidden.f, hb, Option.bind_some, if_pos rfl]⟩
  · have hlen : l0.length ≤ 1048576 ∧ l1.length ≤ 1048576 ∧ laws_big.f l0 l1 = some false := by
      unfold laws_big.f at hb ⊢
      by_cases c : (l0.length : Int) > 1048576
      · rw [if_pos c] at hb; exact absurd rfl hb
      · rw [if_neg c] at hb ⊢
        rw [w64 (by omega) (by omega)] at hb ⊢
        by_cases d : (l1.length : Int) > 1048576 - (l0.length : Int)
        · rw [decide_eq_true d] at hb; exact absurd rfl hb
        · exact ⟨by omega, by omega, by rw [decide_eq_false d]⟩
    obtain ⟨hl0, hl1, hbig⟩ := hlen
    obtain ⟨s, a1, a2, ⟨K0, d0⟩, hs⟩ := drawMake_ok (l := l0) ⟨hl0, fun a ha => u8_wf (o0 a ha)⟩
    obtain ⟨K1, f1⟩ := j0_ev s a1 a2 l1 ⟨hl1, fun a ha => u8_wf (o1 a ha)⟩
    obtain ⟨K2, f2⟩ := specMake_ev s a1 a2
    have hm := makeR_length s a1 a2
    obtain ⟨K3, f3⟩ := xPuzzle_ev (makeR s a1 a2).1 (makeR s a1 a2).2.1 (by omega)
    refine ⟨K0 + K1 + K2 + K3, ?_⟩
    have d0 := d0 (K0 + K1 + K2 + K3) (by omega)
    have f1 := f1 (K0 + K1 + K2 + K3) (by omega)
    have f2 := f2 (K0 + K1 + K2 + K3) (by omega)
    have f3 := f3 (K0 + K1 + K2 + K3) (by omega)
    simp only at d0 f1 f2 f3
    rw [laws_FnStatesHidden.f, hbig, Option.bind_some, if_neg (by simp), d0, Option.bind_some]
    dsimp only
    rw [implMake_eq s a1 a2 (by omega), Option.bind_some, f2, Option.bind_some, bne_self_eq_false, if_neg (by simp), f3, Option.bind_some]
    exact f1
end Go.Proofs.YtpdkjehplfgjcabGreatDoor.Pure

namespace Go.Proofs.YtpdkjehplfgjcabGreatDoor.fnStatesHidden
open Go.ChangeShapes Go.WideShapes Go.ChangeAt Go.RowKit Go.Proofs.YtpdkjehplfgjcabGreatDoor.PHid Go.Proofs.YtpdkjehplfgjcabGreatDoorW.PrintWords
open Go.ChangeMaps (open_string shut_string)
set_option linter.unusedVariables false
theorem own : ownKnob Tryz.prog.godebug = none := by kernel_rfl
theorem laidOut : laidOutB Tryz.prog = true := by kernel_rfl
set_option maxRecDepth 100000 in
theorem lifted (os : Os) (started : os.Started) (H : Type) (enc : TypeId × Value → H) :
    ReturnsInHanded {} Tryz.checked os 3 .any (fun w args => (Rows.fnStatesHiddenSpec.pre enc Tryz.prog Tryz.f3 Rows.fnStatesHiddenRow.domain false w args ∧ laidMetH Tryz.prog Rows.fnStatesHiddenRow.laid w) ∧ sizedMet enc Tryz.prog Tryz.f3 (OpenSpec.ofChange Rows.fnStatesHiddenSpec) false w args) (Rows.fnStatesHiddenSpec.post enc Tryz.prog Tryz.f3 false true false false) := by
  refine returnsInHanded_of_change_and (C := Tryz.checked) (X := fun w _ => laidMetH Tryz.prog Rows.fnStatesHiddenRow.laid w) (fun _ _ _ hh h => h.of_heap hh) own started (by kernel_rfl) Tryz.func3
    (ChangeSpec.witness_shaped (enc := enc) (C := Tryz.checked) (os := os) (X := fun w _ => laidMetH Tryz.prog Rows.fnStatesHiddenRow.laid w) false (World.laidAll Tryz.prog os Rows.fnStatesHiddenRow.laid) #[.slice none 0 0, .slice none 0 0] 8 (World.laidAll_os _ _ _)
      (World.shaped_of_ZipB (by kernel_rfl) (by kernel_rfl)) (by kernel_rfl) (by kernel_rfl) (by kernel_rfl)
      (by rw [MakeChecks.laidMetH_plain _ _ _ (by kernel_rfl)]; exact laidMet_laidAll _ (by kernel_rfl) (by kernel_rfl))) ?_
  intro W base args ds gs before hval0 hW hcnd _ hL hsz0
  have hval : ∀ (j : Nat) t v, Tryz.f3.params[j]? = some t → args[j]? = some v → Value.okWide Tryz.prog W .any base t v := hval0
  have hW' := hW
  obtain ⟨p, q, hA0, hV, rfl, hfz, hnd⟩ := hW
  have hA : DataW.TrodAll enc Tryz.prog W 0 (fun _ => true) true Tryz.f3.params.toList args.toList ds p := hA0
  rw [Tryz.params3] at hA hval
  obtain ⟨v0, vs0, d0, ds0, p0, q0, hargs, rfl, rfl, h0, r0⟩ := trodAll_cons hA
  obtain ⟨v1, vs1, d1, ds1, p1, q1, rfl, rfl, rfl, h1, r1⟩ := trodAll_cons r0
  obtain ⟨rfl, rfl, rfl⟩ := trodAll_nil r1
  obtain rfl : args = #[v0, v1] := by cases args; simp_all
  obtain ⟨rfl, rfl⟩ := trodVars_none hV
  have k0 := h0
  have lt0 : ∀ x ∈ p0, x.block < W.heap.size := by obtain ⟨m, hm⟩ := k0; exact DataW.trod_lt m _ _ _ hm
  obtain ⟨x0, len0, cap0, rfl⟩ := okWide_slice Tryz.underlying22 (hval 0 22 v0 rfl rfl)
  obtain ⟨fuel0, hf0⟩ := h0
  obtain ⟨l0, K0, o0⟩ := (opens_slice Tryz.underlying22 (by kernel_rfl) (opens_int Tryz.underlying5)) enc W _ _ _ hf0
  obtain ⟨A0, c0, e0, hc0, hr0⟩ := K0
  simp only [Value.cells, List.cons.injEq, and_true, Value.slice.injEq] at e0
  obtain ⟨rfl, rfl, rfl⟩ := e0
  have k1 := h1
  have lt1 : ∀ x ∈ p1, x.block < W.heap.size := by obtain ⟨m, hm⟩ := k1; exact DataW.trod_lt m _ _ _ hm
  obtain ⟨x1, len1, cap1, rfl⟩ := okWide_slice Tryz.underlying22 (hval 1 22 v1 rfl rfl)
  obtain ⟨fuel1, hf1⟩ := h1
  obtain ⟨l1, K1, o1⟩ := (opens_slice Tryz.underlying22 (by kernel_rfl) (opens_int Tryz.underlying5)) enc W _ _ _ hf1
  obtain ⟨A1, c1, e1, hc1, hr1⟩ := K1
  simp only [Value.cells, List.cons.injEq, and_true, Value.slice.injEq] at e1
  obtain ⟨rfl, rfl, rfl⟩ := e1
  obtain ⟨k, h⟩ := Pure.FnStatesHidden_pure l0 l1 hr0.2.1 hr1.2.1 o0 o1
  refine (laws_FnStatesHidden.calls k _ _ l0 _ _ l1 true W hr0 hc0 hr1 hc1 h).mono fun e W' hpost => ?_
  obtain ⟨he, bel⟩ := hpost
  subst he
  exact ⟨_, rfl, _, _, _, [], _, [], hW', trodAll_mk1 (shut_bool Tryz.underlying4 _), (trodAll_cons_mk (Below.trod laidOut (by kernel_rfl) (of_decide_eq_true (by kernel_rfl)) k0 bel lt0) (trodAll_cons_mk (Below.trod laidOut (by kernel_rfl) (of_decide_eq_true (by kernel_rfl)) k1 bel lt1) trodAll_mk0)), rfl, bel.frame _, fun h => by cases h⟩
theorem over : Rows.fnStatesHiddenRow.holds Tryz.pinned (OpenSpec.ofChange Rows.fnStatesHiddenSpec) :=
  OpenClaim.holds_of_wide 3 Tryz.f3 rfl rfl rfl rfl rfl rfl rfl ⟨rfl, rfl, rfl, rfl, rfl⟩ rfl rfl rfl rfl rfl (by kernel_rfl) Tryz.func3 (by kernel_rfl)
    (of_decide_eq_true (by kernel_rfl)) (by unfold Func.isWrapper; first | (rw [if_pos (by decide +kernel)]; kernel_rfl) | (rw [if_neg (by decide +kernel)]; exact ⟨rfl, rfl⟩))
    (fun os started H enc _ => lifted os started H enc)
theorem proved : Rows.FnStatesHiddenSaid := over
theorem card : Rows.FnStatesHiddenCardSaid :=
  Claim7.holds_tied_plain_at .later [] [.data, .pinned] true (true, "5c51a389b2f2a40c3a5a43d77a142861765d707677036639cfa4d07f682e0bf3") false proved (fun _ h => by cases h) (by kernel_rfl) (fun _ h => by cases h) fnStatesHidden_row_tie rfl ⟨rfl, rfl⟩ (by kernel_rfl) rfl
    (fun f fn hf hfn => by
      obtain rfl : f = 3 := Option.some.inj ((show Tryz.prog.funcNamed "loop.example/g01314/laws.FnStatesHidden" = some 3 by kernel_rfl).symm.trans hf) |>.symm
      obtain rfl : fn = Tryz.f3 := (Option.some.inj (Tryz.func3.symm.trans hfn)).symm
      exact ⟨by kernel_rfl, fun j t ht => by
        rw [Tryz.params3] at ht
        have hm : t ∈ [22, 22] := by simpa using Array.mem_of_getElem? ht
        have hall : ([22, 22].all fun u => !Tryz.prog.wantsStandIn u) = true := by kernel_rfl
        exact (show Tryz.prog.wantsStandIn t = false by simpa using List.all_eq_true.1 hall t hm)⟩)
    (by kernel_rfl)
#print axioms card
#print axioms proved
end Go.Proofs.YtpdkjehplfgjcabGreatDoor.fnStatesHidden
namespace Go.Proofs.YtpdkjehplfgjcabGreatDoor
/-- The row, under a short name, for the claim. -/
theorem fnStatesHidden_holds : Rows.FnStatesHiddenCardSaid := fnStatesHidden.card
end Go.Proofs.YtpdkjehplfgjcabGreatDoor
