/- What the printed functions answer, function by function: plain statements, without memory. (wip/after) -/
import Derived.Test.YtiiahdjjngdgoaaDoorQPLTickx
import Derived.Test.YtiiahdjjngdgoaaDoorQEv
import Derived.Test.YtiiahdjjngdgoaaDoorQState
import Derived.Test.YtiiahdjjngdgoaaDoorQGray
namespace Go.Proofs.YtiiahdjjngdgoaaDoor.PLTick
open Go.RowKit Go.Proofs.YtiiahdjjngdgoaaDoorW.PrintWords Go.Proofs.YtiiahdjjngdgoaaDoorW.PrintLast Go.Proofs.YtiiahdjjngdgoaaDoorW.PrintMore
set_option linter.unusedVariables false
set_option linter.unusedSimpArgs false
/-! ### after spec_laAsked -/
theorem laAsked_eq (l : List ByteArray) (s : ByteArray) : spec_laAsked.f l s = some (litR l s) := by
  simp only [spec_laAsked.f, spec_laGood.f, spec_laState.f, Option.bind_some, litR]
  cases areLampsB l <;> simp

/-! ### after spec_laTick -/
theorem laTick_eq {l : List ByteArray} {s : ByteArray} (h : litR l s = true) : spec_laTick.f l s = some (tickS l s) := by
  obtain ⟨_, h1, _, h2, h3, h4⟩ := lit_facts h
  unfold spec_laTick.f
  rw [if_pos ⟨h1, by omega, h3, h4⟩]
  rfl

/-! ### after impl_Lamps_lit -/
theorem lit_eq (l : List ByteArray) (s : ByteArray) : impl_Lamps_lit.f l s = some (litR l s) := by
  simp only [impl_Lamps_lit.f, impl_AreLamps.f, Option.bind_some, litR]
  cases h : areLampsB l
  · simp
  · obtain ⟨_, hl, _⟩ := lamps_facts h
    rw [litB_eq]
    by_cases hs : s.size = l.length
    · have ht : strings_Trim.f s (⟨#[48, 49]⟩ : ByteArray) = some ⟨(Lib.trimS s.data.toList [48, 49]).toArray⟩ := by
        unfold strings_Trim.f
        rw [if_pos ⟨by omega, by decide, by decide⟩]
      have hs' : (s.size : Int) = l.length := by omega
      simp only [if_true, if_pos hs', ht, Option.bind_some, trimS_beq, isBit_contains, hs, beq_self_eq_true, Bool.true_and]
    · have hs' : ¬ (s.size : Int) = l.length := by omega
      simp [hs, hs']

/-! ### after impl_Lamps_tick -/
theorem tick_eq {l : List ByteArray} {s : ByteArray} (h : litR l s = true) : impl_Lamps_tick.f l s = some (tickS l s) := by
  obtain ⟨_, h1, _, h2, h3, h4⟩ := lit_facts h
  unfold impl_Lamps_tick.f
  rw [if_pos ⟨h1, by omega, h3⟩]
  rfl

/-! ### after impl_TickOnce -/
def tickR (l : List ByteArray) (s : ByteArray) : ByteArray × Bool := if litR l s = true then (tickS l s, true) else (⟨#[]⟩, false)
theorem implTickOnce_eq (l : List ByteArray) (s : ByteArray) : impl_TickOnce.f l s = some (tickR l s) := by
  simp only [impl_TickOnce.f, lit_eq, Option.bind_some, tickR]
  by_cases h : litR l s = true
  · rw [if_pos h, if_pos h, tick_eq h]; rfl
  · rw [if_neg h, if_neg h]
theorem specTickOnce_eq (l : List ByteArray) (s : ByteArray) : spec_TickOnce.f l s = some (tickR l s) := by
  simp only [spec_TickOnce.f, laAsked_eq, Option.bind_some, tickR]
  by_cases h : litR l s = true
  · rw [if_pos h, if_pos h, laTick_eq h]; rfl
  · rw [if_neg h, if_neg h]

/-! ### after spec_l1Cur_next -/
/-- What is drawn from: bytes, not too many. -/
def okL (l : List Int) : Prop := l.length ≤ 1048576 ∧ ∀ a ∈ l, 0 ≤ a ∧ a ≤ 255
theorem rd_ok {l : List Int} (h : okL l) (i : Int) (h0 : 0 ≤ i) (h1 : i < (l.length : Int)) : 0 ≤ rd l i ∧ rd l i ≤ 255 := by
  have hn : i.toNat < l.length := by omega
  have e : rd l i = l[i.toNat] := by simp [rd, hn]
  rw [e]; exact h.2 _ (List.getElem_mem hn)
theorem and_255 (x : Int) : 0 ≤ wrap64 (Go.bits .and .u64 x 255) ∧ wrap64 (Go.bits .and .u64 x 255) ≤ 255 := by
  have e : Go.bits .and .u64 x 255 = IntKind.u64.wrap (((BitVec.ofInt IntKind.u64.bits x).toNat &&& 255 : Nat) : Int) := by
    simp only [Go.bits, BitVec.toNat_and]
    rfl
  have h : (BitVec.ofInt IntKind.u64.bits x).toNat &&& 255 ≤ 255 := Nat.and_le_right
  rw [e]
  generalize (BitVec.ofInt IntKind.u64.bits x).toNat &&& 255 = n at h
  have e2 : IntKind.u64.wrap (n : Int) = (n : Int) := by
    simp only [IntKind.wrap, IntKind.bits, IntKind.signed]
    simp
    omega
  rw [e2, w64 (by omega) (by omega)]
  omega
theorem next_ok {l : List Int} (h : okL l) (p s : Int) (h0 : 0 ≤ p) (h1 : p ≤ 4611686018427387904) : ∃ b s', spec_l1Cur_next.f l p s = some (b, p + 1, s') ∧ 0 ≤ b ∧ b ≤ 255 := by
  have ew : wrap64 (p + 1) = p + 1 := w64 (by omega) (by omega)
  unfold spec_l1Cur_next.f
  rw [ew]
  by_cases c : p < (l.length : Int)
  · obtain ⟨r0, r1⟩ := rd_ok h p h0 c
    have er : wrap64 (rd l p) = rd l p := w64 (by omega) (by omega)
    rw [if_pos c, if_pos h0, er]
    split
    · exact ⟨_, _, rfl, r0, r1⟩
    · exact ⟨_, _, rfl, (and_255 _).1, (and_255 _).2⟩
  · rw [if_neg c]
    split
    · exact ⟨_, _, rfl, by omega, by omega⟩
    · exact ⟨_, _, rfl, (and_255 _).1, (and_255 _).2⟩

/-! ### after spec_l1Cur_pick -/
theorem pick_ok {l : List Int} (h : okL l) (p s n : Int) (h0 : 0 ≤ p) (h1 : p ≤ 2305843009213693952) : ∃ x p' s', spec_l1Cur_pick.f l p s n = some (x, p', s') ∧ 0 ≤ x ∧ (x < n ∨ x = 0) ∧ p ≤ p' ∧ p' ≤ p + 2 := by
  unfold spec_l1Cur_pick.f
  by_cases c : n ≤ 1
  · rw [if_pos c]; exact ⟨0, p, s, rfl, by omega, .inr rfl, by omega, by omega⟩
  · obtain ⟨b, s1, e1, b0, b1⟩ := next_ok h p s h0 (by omega)
    rw [if_neg c, e1, Option.bind_some]
    by_cases c2 : n > 200
    · obtain ⟨b2, s2, e2, b3, b4⟩ := next_ok h (p + 1) s1 (by omega) (by omega)
      rw [if_pos c2]
      dsimp only
      rw [e2, Option.bind_some, if_neg (by omega)]
      dsimp only
      rw [w64 (a := b * 256) (by omega) (by omega), w64 (by omega) (by omega)]
      exact ⟨_, _, _, rfl, Int.tmod_nonneg _ (by omega), .inl (Int.tmod_lt_of_pos _ (by omega)), by omega, by omega⟩
    · rw [if_neg c2, if_neg (by omega)]
      exact ⟨_, _, _, rfl, Int.tmod_nonneg _ b0, .inl (Int.tmod_lt_of_pos _ (by omega)), by dsimp only; omega, by dsimp only; omega⟩

/-! ### after spec_l1Cur_one -/
theorem one_ok {l : List Int} (h : okL l) (p s n : Int) (h0 : 0 ≤ p) (h1 : p ≤ 2305843009213693952) : ∃ x p' s', spec_l1Cur_one.f l p s n = some (x, p', s') ∧ p ≤ p' ∧ p' ≤ p + 2 := by
  obtain ⟨x, p', s', e, _, _, h2, h3⟩ := pick_ok h p s n h0 h1
  exact ⟨_, p', s', by rw [spec_l1Cur_one.f, e, Option.bind_some], h2, h3⟩

/-! ### after spec_l1Cur_of -/
theorem of_ok {l : List Int} (h : okL l) (p s : Int) (L : List ByteArray) (B : Nat) (hL : ∀ t ∈ L, t.size ≤ B) (hn : L ≠ []) (h0 : 0 ≤ p) (h1 : p ≤ 2305843009213693952) : ∃ t p' s', spec_l1Cur_of.f l p s L = some (t, p', s') ∧ t.size ≤ B ∧ p ≤ p' ∧ p' ≤ p + 2 := by
  obtain ⟨x, p', s', e, x0, x1, h2, h3⟩ := pick_ok h p s (L.length : Int) h0 h1
  have hp := List.length_pos_iff.2 hn
  have hx : x.toNat < L.length := by omega
  refine ⟨rdOf ByteArray.empty L x, p', s', ?_, ?_, h2, h3⟩
  · rw [spec_l1Cur_of.f, e, Option.bind_some, if_pos x0, if_pos (by dsimp only; omega)]
  · have er : rdOf ByteArray.empty L x = L[x.toNat] := by simp [rdOf, hx]
    rw [er]; exact hL _ (List.getElem_mem hx)

/-! ### after spec_l1Cur_among -/
theorem among_ok {l : List Int} (h : okL l) (p s : Int) (L : List Int) (hn : L ≠ []) (h0 : 0 ≤ p) (h1 : p ≤ 2305843009213693952) : ∃ t p' s', spec_l1Cur_among.f l p s L = some (t, p', s') ∧ p ≤ p' ∧ p' ≤ p + 2 := by
  obtain ⟨x, p', s', e, x0, x1, h2, h3⟩ := pick_ok h p s (L.length : Int) h0 h1
  have hp := List.length_pos_iff.2 hn
  refine ⟨rd L x, p', s', ?_, h2, h3⟩
  rw [spec_l1Cur_among.f, e, Option.bind_some, if_pos x0, if_pos (by dsimp only; omega)]

/-! ### after spec_l1Cur_ticks -/
theorem dticks_ok {l : List Int} (h : okL l) (p s : Int) (h0 : 0 ≤ p) (h1 : p ≤ 2305843009213693952) : ∃ t p' s', spec_l1Cur_ticks.f l p s = some (t, p', s') ∧ p ≤ p' ∧ p' ≤ p + 2 := by
  obtain ⟨t, p', s', e, h2, h3⟩ := among_ok h p s ([0, 1, 2, 3, 5, 8, 17, 100, 1000000, 1000001, (-1)] : List Int) (by simp) h0 h1
  exact ⟨t, p', s', by rw [spec_l1Cur_ticks.f, e, Option.bind_some], h2, h3⟩

/-! ### after spec_l1Cur_lit -/
theorem lit_j1 {l : List Int} (h : okL l) (p s : Int) (t : ByteArray) (ht : t.size ≤ 1000) (h0 : 0 ≤ p) (h1 : p ≤ 1152921504606846976) : ∃ t' p' s', Ev (fun k => spec_l1Cur_lit.j1 k t l p s) (t', p', s') ∧ p ≤ p' ∧ p' ≤ p + 4 := by
  obtain ⟨x, p1, s1, e1, a1, a2⟩ := one_ok h p s 14 h0 (by omega)
  cases x with
  | false => exact ⟨t, p1, s1, Ev.last fun k => by rw [spec_l1Cur_lit.j1, e1, Option.bind_some, if_neg (by simp)], by omega, by omega⟩
  | true =>
    obtain ⟨u, p2, s2, e2, b0, b1, b2⟩ := of_ok h p1 s1 ([(⟨#[48]⟩ : ByteArray), (⟨#[120]⟩ : ByteArray)] : List ByteArray) 1 (by decide) (by simp) (by omega) (by omega)
    exact ⟨t ++ u, p2, s2, Ev.last fun k => by
      rw [spec_l1Cur_lit.j1, e1, Option.bind_some, if_pos rfl]
      dsimp only
      rw [e2, Option.bind_some, if_pos (by dsimp only; omega)], by omega, by omega⟩
theorem lit_l0 {l : List Int} (h : okL l) (L : List ByteArray) : ∀ (d i : Nat) (p s : Int) (t : ByteArray), i + d = 12 → t.size ≤ i → 0 ≤ p → p ≤ 100000000 + 2 * i → ∃ t' p' s', Ev (fun k => spec_l1Cur_lit.l0 k t (i : Int) l p s L) (t', p', s') ∧ p ≤ p' ∧ p' ≤ p + 2 * d + 4
  | 0, i, p, s, t, hi, ht, h0, h1 => by
    obtain ⟨t', p', s', e, a1, a2⟩ := lit_j1 h p s t (by omega) h0 (by omega)
    refine ⟨t', p', s', Ev.next ⟨0, fun k _ => ?_⟩ e, a1, by omega⟩
    rw [spec_l1Cur_lit.l0]
    by_cases c : (i : Int) < (L.length : Int)
    · rw [if_pos c, if_neg (by omega)]
    · rw [if_neg c]
  | d + 1, i, p, s, t, hi, ht, h0, h1 => by
    by_cases c : (i : Int) < (L.length : Int)
    · obtain ⟨u, p1, s1, e1, b0, b1, b2⟩ := of_ok h p s ([(⟨#[48]⟩ : ByteArray), (⟨#[49]⟩ : ByteArray)] : List ByteArray) 1 (by decide) (by simp) h0 (by omega)
      obtain ⟨t', p', s', e, a1, a2⟩ := lit_l0 h L d (i + 1) p1 s1 (t ++ u) (by omega) (by rw [ByteArray.size_append]; omega) (by omega) (by omega)
      refine ⟨t', p', s', Ev.next ⟨0, fun k _ => ?_⟩ e, by omega, by omega⟩
      rw [spec_l1Cur_lit.l0, if_pos c, if_pos (by omega), e1, Option.bind_some, if_pos (by dsimp only; omega), w64 (by omega) (by omega)]
      rfl
    · obtain ⟨t', p', s', e, a1, a2⟩ := lit_j1 h p s t (by omega) h0 (by omega)
      exact ⟨t', p', s', Ev.next ⟨0, fun k _ => by rw [spec_l1Cur_lit.l0, if_neg c]⟩ e, a1, by omega⟩
theorem lit_ok {l : List Int} (h : okL l) (L : List ByteArray) (p s : Int) (h0 : 0 ≤ p) (h1 : p ≤ 100000000) : ∃ t' p' s', Ev (fun k => spec_l1Cur_lit.f k l p s L) (t', p', s') ∧ p ≤ p' ∧ p' ≤ p + 28 := by
  obtain ⟨t', p', s', e, a1, a2⟩ := lit_l0 h L 12 0 p s ⟨#[]⟩ (by omega) (by decide) h0 (by omega)
  exact ⟨t', p', s', e, a1, by omega⟩

/-! ### after spec_l1Cur_spoilt -/
theorem spoilt_ev {l : List Int} (h : okL l) : ∀ (d : Nat) (p s : Int) (t : ByteArray), d ≤ 2 → t.size + d ≤ 1000 → 0 ≤ p → p + 6 * d ≤ 10000000 → ∃ t' p' s', Ev (fun k => spec_l1Cur_spoilt.l0 k t (⟨#[48, 49, 63, 120]⟩ : ByteArray) (d : Int) l p s) (t', p', s') ∧ p ≤ p' ∧ p' ≤ p + 6 * d
  | 0, p, s, t, hd, ht, h0, h1 => by
    refine ⟨t, p, s, Ev.next ⟨0, fun k _ => ?_⟩ (Ev.last (g := fun k => spec_l1Cur_spoilt.j1 k t (⟨#[48, 49, 63, 120]⟩ : ByteArray) ((0 : Nat) : Int) false l p s) fun k => ?_), by omega, by omega⟩
    · rw [spec_l1Cur_spoilt.l0, if_neg (by omega)]
    · rw [spec_l1Cur_spoilt.j1, if_neg (by simp)]
  | d + 1, p, s, t, hd, ht, h0, h1 => by
    by_cases c : (t.size : Int) > 0
    · obtain ⟨x, p1, s1, e1, x0, x1, a1, a2⟩ := pick_ok h p s (t.size : Int) h0 (by omega)
      obtain ⟨y, p2, s2, e2, y0, y1, b1, b2⟩ := pick_ok h p1 s1 (((⟨#[48, 49, 63, 120]⟩ : ByteArray).size : Nat) : Int) (by omega) (by omega)
      obtain ⟨z, p3, s3, e3, z0, z1, c1, c2⟩ := pick_ok h p2 s2 3 (by omega) (by omega)
      have h4 : ((⟨#[48, 49, 63, 120]⟩ : ByteArray).size : Int) = 4 := rfl
      have hs1 : (strOfNums ([bt (⟨#[48, 49, 63, 120]⟩ : ByteArray) y] : List Int)).size = 1 := by rw [strOfNums_size]; rfl
      have hx1 : (t.extract 0 x.toNat).size ≤ t.size := by rw [ByteArray.size_extract]; omega
      have hx2 : (t.extract x.toNat t.size).size = t.size - x.toNat := by rw [ByteArray.size_extract]; omega
      have hx3 : (t.extract (x + 1).toNat t.size).size = t.size - (x + 1).toNat := by rw [ByteArray.size_extract]; omega
      have hx4 : (t.extract 0 x.toNat).size = x.toNat := by rw [ByteArray.size_extract]; omega
      have ew : wrap64 (x + 1) = x + 1 := w64 (by omega) (by omega)
      have ed : wrap64 (((d + 1 : Nat) : Int) - 1) = (d : Int) := by rw [w64 (by omega) (by omega)]; omega
      have fin : ∀ t' : ByteArray, t'.size ≤ t.size + 1 → (∀ k, spec_l1Cur_spoilt.j1 (k + 1) t (⟨#[48, 49, 63, 120]⟩ : ByteArray) ((d + 1 : Nat) : Int) true l p s = spec_l1Cur_spoilt.l0 k t' (⟨#[48, 49, 63, 120]⟩ : ByteArray) (d : Int) l p3 s3) → ∃ t' p' s', Ev (fun k => spec_l1Cur_spoilt.l0 k t (⟨#[48, 49, 63, 120]⟩ : ByteArray) ((d + 1 : Nat) : Int) l p s) (t', p', s') ∧ p ≤ p' ∧ p' ≤ p + 6 * ((d + 1 : Nat) : Int) := by
        intro t' hs hj
        obtain ⟨t2, p', s', e, a3, a4⟩ := spoilt_ev h d p3 s3 t' (by omega) (by omega) (by omega) (by omega)
        refine ⟨t2, p', s', Ev.next (f := fun k => spec_l1Cur_spoilt.j1 k t (⟨#[48, 49, 63, 120]⟩ : ByteArray) ((d + 1 : Nat) : Int) true l p s) ⟨0, fun k _ => ?_⟩ (Ev.next ⟨0, fun k _ => hj k⟩ e), by omega, by omega⟩
        rw [spec_l1Cur_spoilt.l0, if_pos (by omega), decide_eq_true c]
      have pre : ∀ k, spec_l1Cur_spoilt.j1 (k + 1) t (⟨#[48, 49, 63, 120]⟩ : ByteArray) ((d + 1 : Nat) : Int) true l p s = (if z = 0 then (if 0 ≤ x then (if x ≤ (t.size : Int) then (if (t.extract 0 x.toNat).size + (strOfNums ([bt (⟨#[48, 49, 63, 120]⟩ : ByteArray) y] : List Int)).size ≤ 9223372036854775807 then (if ((t.extract 0 x.toNat) ++ (strOfNums ([bt (⟨#[48, 49, 63, 120]⟩ : ByteArray) y] : List Int))).size + (t.extract x.toNat t.size).size ≤ 9223372036854775807 then (spec_l1Cur_spoilt.l0 k (((t.extract 0 x.toNat) ++ (strOfNums ([bt (⟨#[48, 49, 63, 120]⟩ : ByteArray) y] : List Int))) ++ (t.extract x.toNat t.size)) (⟨#[48, 49, 63, 120]⟩ : ByteArray) (d : Int) l p3 s3) else none) else none) else none) else none)
          else (if z = 1 then (if 0 ≤ x then (if x ≤ (t.size : Int) then (if (t.extract 0 x.toNat).size + (strOfNums ([bt (⟨#[48, 49, 63, 120]⟩ : ByteArray) y] : List Int)).size ≤ 9223372036854775807 then (if 0 ≤ x + 1 then (if x + 1 ≤ (t.size : Int) then (if ((t.extract 0 x.toNat) ++ (strOfNums ([bt (⟨#[48, 49, 63, 120]⟩ : ByteArray) y] : List Int))).size + (t.extract (x + 1).toNat t.size).size ≤ 9223372036854775807 then (spec_l1Cur_spoilt.l0 k (((t.extract 0 x.toNat) ++ (strOfNums ([bt (⟨#[48, 49, 63, 120]⟩ : ByteArray) y] : List Int))) ++ (t.extract (x + 1).toNat t.size)) (⟨#[48, 49, 63, 120]⟩ : ByteArray) (d : Int) l p3 s3) else none) else none) else none) else none) else none) else none)
          else (if 0 ≤ x then (if x ≤ (t.size : Int) then (if 0 ≤ x + 1 then (if x + 1 ≤ (t.size : Int) then (if (t.extract 0 x.toNat).size + (t.extract (x + 1).toNat t.size).size ≤ 9223372036854775807 then (spec_l1Cur_spoilt.l0 k ((t.extract 0 x.toNat) ++ (t.extract (x + 1).toNat t.size)) (⟨#[48, 49, 63, 120]⟩ : ByteArray) (d : Int) l p3 s3) else none) else none) else none) else none) else none))) := by
        intro k
        rw [spec_l1Cur_spoilt.j1, if_pos rfl, e1, Option.bind_some]
        dsimp only
        rw [e2, Option.bind_some]
        dsimp only
        rw [if_pos y0, if_pos (by omega), Option.bind_some, e3, Option.bind_some]
        dsimp only
        rw [ew, ed]
      by_cases g1 : z = 0
      · exact fin (((t.extract 0 x.toNat) ++ (strOfNums ([bt (⟨#[48, 49, 63, 120]⟩ : ByteArray) y] : List Int))) ++ (t.extract x.toNat t.size)) (by rw [ByteArray.size_append, ByteArray.size_append]; omega) (fun k => by rw [pre k, if_pos g1, if_pos x0, if_pos (by omega), if_pos (by omega), if_pos (by rw [ByteArray.size_append]; omega)])
      · by_cases g2 : z = 1
        · exact fin (((t.extract 0 x.toNat) ++ (strOfNums ([bt (⟨#[48, 49, 63, 120]⟩ : ByteArray) y] : List Int))) ++ (t.extract (x + 1).toNat t.size)) (by rw [ByteArray.size_append, ByteArray.size_append]; omega) (fun k => by rw [pre k, if_neg g1, if_pos g2, if_pos x0, if_pos (by omega), if_pos (by omega), if_pos (by omega), if_pos (by omega), if_pos (by rw [ByteArray.size_append]; omega)])
        · exact fin ((t.extract 0 x.toNat) ++ (t.extract (x + 1).toNat t.size)) (by rw [ByteArray.size_append]; omega) (fun k => by rw [pre k, if_neg g1, if_neg g2, if_pos x0, if_pos (by omega), if_pos (by omega), if_pos (by omega), if_pos (by omega)])
    · refine ⟨t, p, s, Ev.next ⟨0, fun k _ => ?_⟩ (Ev.last (g := fun k => spec_l1Cur_spoilt.j1 k t (⟨#[48, 49, 63, 120]⟩ : ByteArray) ((d + 1 : Nat) : Int) false l p s) fun k => ?_), by omega, by omega⟩
      · rw [spec_l1Cur_spoilt.l0, if_pos (by omega), decide_eq_false c]
      · rw [spec_l1Cur_spoilt.j1, if_neg (by simp)]
theorem spoilt_ok {l : List Int} (h : okL l) (p s : Int) (t : ByteArray) (ht : t.size ≤ 900) (h0 : 0 ≤ p) (h1 : p ≤ 1000000) : ∃ t' p' s', Ev (fun k => spec_l1Cur_spoilt.f k l p s t (⟨#[48, 49, 63, 120]⟩ : ByteArray)) (t', p', s') ∧ p ≤ p' ∧ p' ≤ p + 14 := by
  obtain ⟨x, p1, s1, e1, x0, x1, a1, a2⟩ := pick_ok h p s 2 h0 (by omega)
  obtain ⟨q, rfl⟩ : ∃ q : Nat, x = q := ⟨x.toNat, by omega⟩
  obtain ⟨t', p', s', ⟨K, hK⟩, b1, b2⟩ := spoilt_ev h (q + 1) p1 s1 t (by omega) (by omega) (by omega) (by omega)
  refine ⟨t', p', s', ⟨K, fun k hk => ?_⟩, by omega, by omega⟩
  have hK := hK k hk
  simp only at hK
  dsimp only
  have ew : wrap64 (1 + (q : Int)) = ((q + 1 : Nat) : Int) := by rw [w64 (by omega) (by omega)]; omega
  rw [spec_l1Cur_spoilt.f, e1, Option.bind_some]
  dsimp only
  rw [ew]
  exact hK

/-! ### after spec_l1Cur_sureLamps -/
theorem ev_up {α : Type} (g : Nat → Option α) (hm : ∀ k, LeO (g k) (g (k + 1))) (K : Nat) (r : α) (h : g K = some r) : Ev g r := by
  refine ⟨K, fun k hk => ?_⟩
  obtain ⟨d, rfl⟩ : ∃ d, k = K + d := ⟨k - K, by omega⟩
  clear hk
  induction d with
  | zero => exact h
  | succ d ih => exact hm _ _ ih
def rowsB (r : Option (List ByteArray × Bool)) : Bool := match r with | some r => decide (1 ≤ r.1.length) && (decide (r.1.length ≤ 100) && r.1.all (fun t => decide (t.size ≤ 100))) | none => false
theorem rowsB_facts {r : Option (List ByteArray × Bool)} (h : rowsB r = true) : ∃ L b, r = some (L, b) ∧ 1 ≤ L.length ∧ L.length ≤ 100 ∧ (∀ t ∈ L, t.size ≤ 100) := by
  cases r with
  | none => cases h
  | some r =>
    simp only [rowsB, Bool.and_eq_true, decide_eq_true_eq, List.all_eq_true] at h
    exact ⟨r.1, r.2, rfl, h.1, h.2.1, h.2.2⟩
theorem count_tab : ((List.range 10).all fun n => rowsB (spec_CountingLamps.f 60 ((n + 1 : Nat) : Int))) = true := by decide +kernel
theorem run_tab : ((List.range 9).all fun n => rowsB (spec_RunningLamps.f 60 ((n + 2 : Nat) : Int))) = true := by decide +kernel
theorem count_ok (n : Nat) (h : n < 10) : ∃ L b, Ev (fun k => spec_CountingLamps.f k ((n + 1 : Nat) : Int)) (L, b) ∧ 1 ≤ L.length ∧ L.length ≤ 100 ∧ (∀ t ∈ L, t.size ≤ 100) := by
  obtain ⟨L, b, e, h1, h2, h3⟩ := rowsB_facts (List.all_eq_true.1 count_tab n (List.mem_range.2 h))
  exact ⟨L, b, ev_up _ (fun k => spec_CountingLamps.mono _ k) 60 _ e, h1, h2, h3⟩
theorem run_ok (n : Nat) (h : n < 9) : ∃ L b, Ev (fun k => spec_RunningLamps.f k ((n + 2 : Nat) : Int)) (L, b) ∧ 1 ≤ L.length ∧ L.length ≤ 100 ∧ (∀ t ∈ L, t.size ≤ 100) := by
  obtain ⟨L, b, e, h1, h2, h3⟩ := rowsB_facts (List.all_eq_true.1 run_tab n (List.mem_range.2 h))
  exact ⟨L, b, ev_up _ (fun k => spec_RunningLamps.mono _ k) 60 _ e, h1, h2, h3⟩
theorem sure_l1 {l : List Int} (h : okL l) (n : Nat) (hn : n ≤ 10) (i : Int) (R : List ByteArray) (P : List ByteArray × Int × Int → Prop)
    (hk : ∀ (p s : Int) (t : ByteArray), 0 ≤ p → p ≤ 10000 + 40 * (i + 1) → t.size ≤ 100 → ∃ r, Ev (fun k => spec_l1Cur_sureLamps.l0 k (n : Int) (wrap64 (i + 1)) l p s (R ++ [t])) r ∧ P r) (hR : R.length ≤ 100) (hi : 0 ≤ i) (hi2 : i ≤ 100) :
    ∀ (d j : Nat) (p s : Int) (t : ByteArray), j + d = n → t.size ≤ j → 0 ≤ p → p ≤ 10000 + 40 * i + 2 * j → ∃ r, Ev (fun k => spec_l1Cur_sureLamps.l1 k (n : Int) i t (j : Int) l p s R) r ∧ P r
  | 0, j, p, s, t, hj, ht, h0, h1 => by
    obtain ⟨r, e, hP⟩ := hk p s t h0 (by omega) (by omega)
    refine ⟨r, Ev.next ⟨0, fun k _ => ?_⟩ e, hP⟩
    rw [spec_l1Cur_sureLamps.l1, if_neg (by omega), if_pos (by omega)]
  | d + 1, j, p, s, t, hj, ht, h0, h1 => by
    obtain ⟨u, p1, s1, e1, b0, b1, b2⟩ := of_ok h p s ([(⟨#[63]⟩ : ByteArray), (⟨#[63]⟩ : ByteArray), (⟨#[48]⟩ : ByteArray), (⟨#[49]⟩ : ByteArray)] : List ByteArray) 1 (by decide) (by simp) h0 (by omega)
    obtain ⟨r, e, hP⟩ := sure_l1 h n hn i R P hk hR hi hi2 d (j + 1) p1 s1 (t ++ u) (by omega) (by rw [ByteArray.size_append]; omega) (by omega) (by omega)
    refine ⟨r, Ev.next ⟨0, fun k _ => ?_⟩ e, hP⟩
    rw [spec_l1Cur_sureLamps.l1, if_pos (by omega), e1, Option.bind_some, if_pos (by dsimp only; omega), w64 (by omega) (by omega)]
    rfl
def goodR (r : List ByteArray × Int × Int) : Prop := 1 ≤ r.1.length ∧ r.1.length ≤ 100 ∧ (∀ t ∈ r.1, t.size ≤ 100) ∧ 0 ≤ r.2.1 ∧ r.2.1 ≤ 20000
theorem sure_l0 {l : List Int} (h : okL l) (n : Nat) (hn : n ≤ 10) (hn1 : 1 ≤ n) : ∀ (d i : Nat) (p s : Int) (R : List ByteArray), i + d = n → R.length = i → (∀ t ∈ R, t.size ≤ 100) → 0 ≤ p → p ≤ 10000 + 40 * i → ∃ r, Ev (fun k => spec_l1Cur_sureLamps.l0 k (n : Int) (i : Int) l p s R) r ∧ goodR r
  | 0, i, p, s, R, hi, hR, ht, h0, h1 => ⟨(R, p, s), Ev.last fun k => by rw [spec_l1Cur_sureLamps.l0, if_neg (by omega)], ⟨by simp only; omega, by simp only; omega, ht, h0, by simp only; omega⟩⟩
  | d + 1, i, p, s, R, hi, hR, ht, h0, h1 => by
    obtain ⟨r, e, hP⟩ := sure_l1 h n hn (i : Int) R goodR (fun p' s' t a0 a1 a2 => by
      have ew : wrap64 ((i : Int) + 1) = ((i + 1 : Nat) : Int) := by rw [w64 (by omega) (by omega)]; omega
      rw [ew]
      exact sure_l0 h n hn hn1 d (i + 1) p' s' (R ++ [t]) (by omega) (by simp [hR]) (fun u hu => by
        rcases List.mem_append.1 hu with hu | hu
        · exact ht u hu
        · rw [List.mem_singleton.1 hu]; exact a2) a0 (by omega)) (by omega) (by omega) (by omega) n 0 p s ⟨#[]⟩ (by omega) (by decide) h0 (by omega)
    refine ⟨r, Ev.next ⟨0, fun k _ => ?_⟩ e, hP⟩
    rw [spec_l1Cur_sureLamps.l0, if_pos (by omega)]
    rfl
theorem sure_ok {l : List Int} (h : okL l) (p s : Int) (h0 : 0 ≤ p) (h1 : p ≤ 1000) : ∃ r, Ev (fun k => spec_l1Cur_sureLamps.f k l p s) r ∧ goodR r := by
  obtain ⟨x, p1, s1, e1, x0, x1, a1, a2⟩ := pick_ok h p s 6 h0 (by omega)
  obtain ⟨y, p2, s2, e2, y0, y1, b1, b2⟩ := pick_ok h p1 s1 5 (by omega) (by omega)
  obtain ⟨q, rfl⟩ : ∃ q : Nat, x = q := ⟨x.toNat, by omega⟩
  have ew : wrap64 (1 + (q : Int)) = ((q + 1 : Nat) : Int) := by rw [w64 (by omega) (by omega)]; omega
  have ew2 : wrap64 (((q + 1 : Nat) : Int) + 1) = ((q + 2 : Nat) : Int) := by rw [w64 (by omega) (by omega)]; omega
  have pre : ∀ k, spec_l1Cur_sureLamps.f k l p s = (if y = 0 then ((spec_CountingLamps.f k ((q + 1 : Nat) : Int)).bind fun bt => (some (bt.1, p2, s2))) else (if y = 1 then ((spec_RunningLamps.f k ((q + 2 : Nat) : Int)).bind fun bt => (some (bt.1, p2, s2))) else (spec_l1Cur_sureLamps.l0 k ((q + 1 : Nat) : Int) 0 l p2 s2 ([] : List ByteArray)))) := by
    intro k
    rw [spec_l1Cur_sureLamps.f, e1, Option.bind_some]
    dsimp only
    rw [e2, Option.bind_some]
    dsimp only
    rw [ew, ew2]
  by_cases c : y = 0
  · obtain ⟨L, b, ⟨K, hK⟩, l1, l2, l3⟩ := count_ok q (by omega)
    refine ⟨(L, p2, s2), ⟨K, fun k hk => ?_⟩, ⟨l1, l2, l3, by simp only; omega, by simp only; omega⟩⟩
    have hK := hK k hk
    simp only at hK
    dsimp only
    rw [pre, if_pos c, hK, Option.bind_some]
  · by_cases c2 : y = 1
    · obtain ⟨L, b, ⟨K, hK⟩, l1, l2, l3⟩ := run_ok q (by omega)
      refine ⟨(L, p2, s2), ⟨K, fun k hk => ?_⟩, ⟨l1, l2, l3, by simp only; omega, by simp only; omega⟩⟩
      have hK := hK k hk
      simp only at hK
      dsimp only
      rw [pre, if_neg c, if_pos c2, hK, Option.bind_some]
    · obtain ⟨r, ⟨K, hK⟩, hP⟩ := sure_l0 h (q + 1) (by omega) (by omega) (q + 1) 0 p2 s2 [] (by omega) rfl (fun t ht => by cases ht) (by omega) (by omega)
      refine ⟨r, ⟨K, fun k hk => ?_⟩, hP⟩
      have hK := hK k hk
      simp only at hK
      dsimp only
      rw [pre, if_neg c, if_neg c2]
      exact hK

/-! ### after spec_l1Cur_lamps -/
theorem dlamps_ok {l : List Int} (h : okL l) (p s : Int) (h0 : 0 ≤ p) (h1 : p ≤ 1000) : ∃ L p' s', Ev (fun k => spec_l1Cur_lamps.f k l p s) (L, p', s') ∧ 0 ≤ p' ∧ p' ≤ 30000 := by
  obtain ⟨⟨R, p1, s1⟩, ⟨K, hK⟩, g1, g2, g3, g4, g5⟩ := sure_ok h p s h0 h1
  simp only at g1 g2 g3 g4 g5
  obtain ⟨x, p2, s2, e2, x0, x1, a1, a2⟩ := pick_ok h p1 s1 16 g4 (by omega)
  obtain ⟨L4, b4, ⟨K4, hK4⟩, _, _, _⟩ := count_ok 9 (by omega)
  have hr : (rdOf ByteArray.empty R 0).size ≤ 900 := by
    have hl : 0 < R.length := by omega
    have e : rdOf ByteArray.empty R 0 = R[0] := by simp [rdOf, hl]
    rw [e]; have := g3 _ (List.getElem_mem hl); omega
  obtain ⟨t, p3, s3, ⟨K3, hK3⟩, c1, c2⟩ := spoilt_ok h p2 s2 (rdOf ByteArray.empty R 0) hr (by omega) (by omega)
  have key : ∃ L p' s', (∀ k, K + K3 + K4 ≤ k → spec_l1Cur_lamps.f k l p s = some (L, p', s')) ∧ 0 ≤ p' ∧ p' ≤ 30000 := by
    have pre : ∀ k, K ≤ k → spec_l1Cur_lamps.f k l p s = (if x = 0 then (if R.length < 8796093022208 then (some ((R ++ [(⟨#[63]⟩ : ByteArray)]), p2, s2)) else (none)) else (if x = 1 then (some (([] : List ByteArray), p2, s2)) else (if x = 2 then (if 0 < (R.length : Int) then ((spec_l1Cur_spoilt.f k l p2 s2 (rdOf ByteArray.empty R 0) (⟨#[48, 49, 63, 120]⟩ : ByteArray)).bind fun bt320 => (some ((R.set (0 : Int).toNat bt320.1), bt320.2.1, bt320.2.2))) else (none)) else (if x = 3 then ((spec_CountingLamps.f k 10).bind fun bt324 => (some (bt324.1, p2, s2))) else (some (R, p2, s2)))))) := by
      intro k hk
      have hK := hK k hk
      simp only at hK
      rw [spec_l1Cur_lamps.f, hK, Option.bind_some]
      dsimp only
      rw [e2, Option.bind_some]
    by_cases d0 : x = 0
    · exact ⟨_, p2, s2, fun k hk => by rw [pre k (by omega), if_pos d0, if_pos (by omega)], by omega, by omega⟩
    by_cases d1 : x = 1
    · exact ⟨_, p2, s2, fun k hk => by rw [pre k (by omega), if_neg d0, if_pos d1], by omega, by omega⟩
    by_cases d2 : x = 2
    · refine ⟨R.set (0 : Int).toNat t, p3, s3, fun k hk => ?_, by omega, by omega⟩
      have hK3 := hK3 k (by omega)
      simp only at hK3
      rw [pre k (by omega), if_neg d0, if_neg d1, if_pos d2, if_pos (by omega), hK3, Option.bind_some]
    by_cases d3 : x = 3
    · refine ⟨L4, p2, s2, fun k hk => ?_, by omega, by omega⟩
      have hK4 := hK4 k (by omega)
      simp only at hK4
      have e10 : ((9 + 1 : Nat) : Int) = 10 := rfl
      rw [e10] at hK4
      rw [pre k (by omega), if_neg d0, if_neg d1, if_neg d2, if_pos d3, hK4, Option.bind_some]
    · exact ⟨R, p2, s2, fun k hk => by rw [pre k (by omega), if_neg d0, if_neg d1, if_neg d2, if_neg d3], by omega, by omega⟩
  obtain ⟨L, p', s', hf, q1, q2⟩ := key
  exact ⟨L, p', s', ⟨K + K3 + K4, hf⟩, q1, q2⟩

/-! ### after spec_DrawTicksAfter -/
theorem drawTicks_ok {l : List Int} (h : okL l) : ∃ L t n, Ev (fun k => spec_DrawTicksAfter.f k l) (L, t, n) := by
  obtain ⟨L, p1, s1, ⟨K1, h1⟩, a1, a2⟩ := dlamps_ok h 0 0 (by omega) (by omega)
  obtain ⟨t, p2, s2, ⟨K2, h2⟩, b1, b2⟩ := lit_ok h L p1 s1 a1 (by omega)
  obtain ⟨n, p3, s3, e3, c1, c2⟩ := dticks_ok h p2 s2 (by omega) (by omega)
  refine ⟨L, t, n, K1 + K2, fun k hk => ?_⟩
  have h1 := h1 k (by omega)
  have h2 := h2 k (by omega)
  simp only at h1 h2
  dsimp only
  rw [spec_DrawTicksAfter.f, h1, Option.bind_some]
  dsimp only
  rw [h2, Option.bind_some]
  dsimp only
  rw [e3, Option.bind_some]

/-! ### after spec_DrawTickOnce -/
theorem drawOnce_ok {l : List Int} (h : okL l) : ∃ L t, Ev (fun k => spec_DrawTickOnce.f k l) (L, t) := by
  obtain ⟨L, p1, s1, ⟨K1, h1⟩, a1, a2⟩ := dlamps_ok h 0 0 (by omega) (by omega)
  obtain ⟨t, p2, s2, ⟨K2, h2⟩, b1, b2⟩ := lit_ok h L p1 s1 a1 (by omega)
  refine ⟨L, t, K1 + K2, fun k hk => ?_⟩
  have h1 := h1 k (by omega)
  have h2 := h2 k (by omega)
  simp only at h1 h2
  dsimp only
  rw [spec_DrawTickOnce.f, h1, Option.bind_some]
  dsimp only
  rw [h2, Option.bind_some]

/-! ### after spec_DrawCycleOfLamps -/
theorem drawCycle_ok {l : List Int} (h : okL l) : ∃ L t, Ev (fun k => spec_DrawCycleOfLamps.f k l) (L, t) := by
  obtain ⟨L, t, K, hK⟩ := drawOnce_ok h
  refine ⟨L, t, K, fun k hk => ?_⟩
  have hK := hK k hk
  simp only at hK
  dsimp only
  rw [spec_DrawCycleOfLamps.f, hK, Option.bind_some]

/-! ### after spec_DrawFirstTick -/
theorem drawFirst_ok {l : List Int} (h : okL l) : ∃ L t n, Ev (fun k => spec_DrawFirstTick.f k l) (L, t, n) := by
  obtain ⟨L, p1, s1, ⟨K1, h1⟩, a1, a2⟩ := dlamps_ok h 0 0 (by omega) (by omega)
  obtain ⟨t, p2, s2, ⟨K2, h2⟩, b1, b2⟩ := lit_ok h L p1 s1 a1 (by omega)
  have hm : ∃ m, spec_l1Most.f 1 (L.length : Int) = some m := by unfold spec_l1Most.f; split <;> exact ⟨_, rfl⟩
  obtain ⟨m, em⟩ := hm
  have hn : ∃ n, spec_l1Least.f 10 m = some n := by unfold spec_l1Least.f; split <;> exact ⟨_, rfl⟩
  obtain ⟨n, en⟩ := hn
  obtain ⟨x, p3, s3, e3, _, _, c1, c2⟩ := pick_ok h p2 s2 (wrap64 (n + 1)) (by omega) (by omega)
  obtain ⟨y, p4, s4, e4, _, _, d1, d2⟩ := pick_ok h p3 s3 9 (by omega) (by omega)
  refine ⟨L, t, wrap64 (x - (wrap64 (Int.tdiv y 8))), K1 + K2, fun k hk => ?_⟩
  have h1 := h1 k (by omega)
  have h2 := h2 k (by omega)
  simp only at h1 h2
  dsimp only
  rw [spec_DrawFirstTick.f, h1, Option.bind_some]
  dsimp only
  rw [h2, Option.bind_some]
  dsimp only
  rw [em, Option.bind_some, en, Option.bind_some, e3, Option.bind_some]
  dsimp only
  rw [e4, Option.bind_some]

/-! ### after laws_xSame -/
theorem xSame_ev (l : List Int) (hl : l.length ≤ 9223372036854775806) : Ev (fun k => laws_xSame.f k l l) true := by
  have key : ∀ (d i : Nat), i + d = l.length → Ev (fun k => laws_xSame.l0 k l l (l.length : Int) (i : Int)) true := by
    intro d
    induction d with
    | zero => intro i hi; exact Ev.last fun k => by rw [laws_xSame.l0, if_neg (by omega)]
    | succ d ih =>
      intro i hi
      refine Ev.next ⟨0, fun k _ => ?_⟩ (ih (i + 1) (by omega))
      rw [laws_xSame.l0, if_pos (by omega), if_pos (by omega), if_pos (by omega), if_pos (by omega), if_pos rfl, w64 (by omega) (by omega)]
      rfl
  obtain ⟨K, hK⟩ := key l.length 0 (by omega)
  exact ⟨K, fun k hk => by simp only [laws_xSame.f, if_true]; exact hK k hk⟩

/-! ### after laws_xTexts -/
theorem xTexts_ev (l : List ByteArray) (hl : l.length ≤ 9223372036854775806) : Ev (fun k => laws_xTexts.f k l l) true := by
  have key : ∀ (d i : Nat), i + d = l.length → Ev (fun k => laws_xTexts.l0 k l l (l.length : Int) (i : Int)) true := by
    intro d
    induction d with
    | zero => intro i hi; exact Ev.last fun k => by rw [laws_xTexts.l0, if_neg (by omega)]
    | succ d ih =>
      intro i hi
      refine Ev.next ⟨0, fun k _ => ?_⟩ (ih (i + 1) (by omega))
      rw [laws_xTexts.l0, if_pos (by omega), if_pos (by omega), if_pos (by omega), if_pos (by omega), if_pos rfl, w64 (by omega) (by omega)]
      rfl
  obtain ⟨K, hK⟩ := key l.length 0 (by omega)
  exact ⟨K, fun k hk => by simp only [laws_xTexts.f, if_true]; exact hK k hk⟩

/-! ### after laws_xText -/
theorem toList_iff (x y : ByteArray) : x.toList = y.toList ↔ x = y := by
  constructor
  · intro h
    rw [Lib.toList_data, Lib.toList_data] at h
    exact ByteArray.ext (Array.toList_inj.1 h)
  · intro h; rw [h]
theorem xText_ev (l : List ByteArray) (s : ByteArray) (hl : l.length ≤ 9223372036854775806) : Ev (fun k => laws_xText.f k l s) (decide (s ∈ l)) := by
  have key : ∀ (d i : Nat), i + d = l.length → Ev (fun k => laws_xText.l0 k s l (l.length : Int) (i : Int)) (decide (s ∈ l.drop i)) := by
    intro d
    induction d with
    | zero =>
      intro i hi
      rw [List.drop_of_length_le (by omega)]
      exact Ev.last fun k => by rw [laws_xText.l0, if_neg (by omega)]; rfl
    | succ d ih =>
      intro i hi
      have hlt : i < l.length := by omega
      have er : rdOf ByteArray.empty l (i : Int) = l[i] := by simp [rdOf, hlt]
      rw [List.drop_eq_getElem_cons hlt]
      by_cases c : l[i] = s
      · have e : decide (s ∈ l[i] :: l.drop (i + 1)) = true := decide_eq_true (by rw [c]; exact List.mem_cons_self)
        rw [e]
        exact Ev.last fun k => by rw [laws_xText.l0, if_pos (by omega), if_pos (by omega), if_pos (by omega), er, if_pos ((toList_iff _ _).2 c)]
      · have e : decide (s ∈ l[i] :: l.drop (i + 1)) = decide (s ∈ l.drop (i + 1)) := by
          rw [decide_eq_decide, List.mem_cons]
          exact ⟨fun h => h.resolve_left (fun h' => c h'.symm), .inr⟩
        rw [e]
        refine Ev.next ⟨0, fun k _ => ?_⟩ (ih (i + 1) (by omega))
        rw [laws_xText.l0, if_pos (by omega), if_pos (by omega), if_pos (by omega), er, if_neg (fun h => c ((toList_iff _ _).1 h)), w64 (by omega) (by omega)]
        rfl
  have := key l.length 0 (by omega)
  rwa [List.drop_zero] at this

/-! ### after spec_laPath -/
theorem pigeon : ∀ (N : Nat) (L : List Nat), L.Nodup → (∀ x ∈ L, x < N) → L.length ≤ N := by
  intro N
  induction N with
  | zero =>
    intro L _ h
    cases L with
    | nil => simp
    | cons a r => exact absurd (h a (by simp)) (by omega)
  | succ N ih =>
    intro L hn h
    have h1 := ih (L.erase N) (hn.erase N) (fun x hx => by
      have h2 := h x (List.mem_of_mem_erase hx)
      have h3 : x ≠ N := fun e => by subst e; exact absurd hx (List.Nodup.not_mem_erase hn)
      omega)
    by_cases hm : N ∈ L
    · rw [List.length_erase_of_mem hm] at h1
      omega
    · rw [List.erase_of_not_mem hm] at h1
      omega
theorem numL_inj : ∀ (n : Nat) (a b : List UInt8), a.length = n → b.length = n → a.all isBit = true → b.all isBit = true → numL a = numL b → a = b := by
  intro n
  induction n with
  | zero => intro a b ha hb _ _ _; rw [List.length_eq_zero_iff.1 ha, List.length_eq_zero_iff.1 hb]
  | succ n ih =>
    intro a b ha hb h1 h2 h
    rcases List.eq_nil_or_concat a with rfl | ⟨a', x, rfl⟩
    · cases ha
    rcases List.eq_nil_or_concat b with rfl | ⟨b', y, rfl⟩
    · cases hb
    simp only [List.concat_eq_append] at *
    rw [numL_snoc, numL_snoc] at h
    simp only [List.all_append, List.all_cons, List.all_nil, Bool.and_true, Bool.and_eq_true] at h1 h2
    have hx : x = 48 ∨ x = 49 := by simpa [isBit] using h1.2
    have hy : y = 48 ∨ y = 49 := by simpa [isBit] using h2.2
    have hl1 : a'.length = n := by simpa using ha
    have hl2 : b'.length = n := by simpa using hb
    rcases hx with rfl | rfl <;> rcases hy with rfl | rfl
    · rw [ih a' b' hl1 hl2 h1.1 h2.1 (by simp at h; omega)]
    · simp at h; omega
    · simp at h; omega
    · rw [ih a' b' hl1 hl2 h1.1 h2.1 (by simp at h; omega)]
theorem numS_inj {l : List ByteArray} {a b : ByteArray} (ha : litR l a = true) (hb : litR l b = true) (h : numL a.data.toList = numL b.data.toList) : a = b := by
  obtain ⟨_, h1, _, _, _, h2⟩ := lit_facts ha
  obtain ⟨_, h3, _, _, _, h4⟩ := lit_facts hb
  have e1 := Lib.size_eq a
  have e2 := Lib.size_eq b
  apply ByteArray.ext
  exact Array.toList_inj.1 (numL_inj a.size a.data.toList b.data.toList (by omega) (by omega) h2 h4 h)
theorem lit_num {l : List ByteArray} {a : ByteArray} (ha : litR l a = true) : numL a.data.toList < 2 ^ l.length := by
  obtain ⟨_, h1, _, _, _, _⟩ := lit_facts ha
  rw [h1]
  exact numL_lt _ _ (Lib.size_eq a).symm
theorem pow10 {n : Nat} (h : n ≤ 10) : 2 ^ n ≤ 1024 := Nat.le_trans (Nat.pow_le_pow_right (by omega) h) (by decide)
theorem nodup_le {l : List ByteArray} {acc : List ByteArray} (h0 : areLampsB l = true) (hn : acc.Nodup) (hl : ∀ x ∈ acc, litR l x = true) : acc.length ≤ 1024 := by
  have h1 := pigeon (2 ^ l.length) (acc.map fun x => numL x.data.toList) (by
    rw [List.Nodup, List.pairwise_map]
    refine List.Pairwise.imp_of_mem ?_ hn
    intro a b ha hb hne he
    exact hne (numS_inj (hl a ha) (hl b hb) he)) (fun x hx => by
      obtain ⟨a, ha, rfl⟩ := List.mem_map.1 hx
      exact lit_num (hl a ha))
  have h2 := pow10 (lamps_facts h0).2.1
  simp at h1
  omega
theorem idxS_lt {acc : List ByteArray} {s : ByteArray} (h : s ∈ acc) : idxS acc s < acc.length := List.findIdx_lt_length.2 ⟨s, h, by simp⟩
/-- The course of lamps: told for all lamps and states. -/
theorem courseP_some {l : List ByteArray} (h0 : areLampsB l = true) : ∀ (n : Nat) (acc : List ByteArray) (s : ByteArray), acc.Nodup → (∀ x ∈ acc, litR l x = true) → litR l s = true → 1025 ≤ acc.length + n →
    ∃ r1 r2, courseP (tickS l) n acc s = some (r1, r2) ∧ r1.length ≤ 1024 ∧ 0 ≤ r2 ∧ r2 < r1.length ∧ (∀ x ∈ r1, litR l x = true) ∧ (acc ++ [s]).head? = r1.head? := by
  intro n
  induction n with
  | zero =>
    intro acc s hn hl hs h
    have := nodup_le h0 hn hl
    omega
  | succ n ih =>
    intro acc s hn hl hs h
    rw [courseP]
    by_cases hm : s ∈ acc
    · rw [if_pos hm]
      refine ⟨acc, _, rfl, nodup_le h0 hn hl, by omega, by have := idxS_lt hm; omega, hl, ?_⟩
      cases acc with
      | nil => cases hm
      | cons a r => rfl
    · rw [if_neg hm]
      obtain ⟨r1, r2, e, h1, h2, h3, h4, h5⟩ := ih (acc ++ [s]) (tickS l s) (by
        rw [List.nodup_append]
        refine ⟨hn, by simp, ?_⟩
        intro a ha b hb
        simp at hb
        rintro rfl
        exact hm (hb ▸ ha)) (fun x hx => by
          rcases List.mem_append.1 hx with h | h
          · exact hl x h
          · simp at h; subst h; exact hs) (lit_tick hs) (by simp; omega)
      refine ⟨r1, r2, e, h1, h2, h3, h4, ?_⟩
      rw [← h5]
      cases acc <;> simp
/-- The course's list and place. -/
def courseR (l : List ByteArray) (s : ByteArray) : List ByteArray × Int := (courseP (tickS l) 1100 [] s).getD ([], 0)
theorem courseR_eq {l : List ByteArray} {s : ByteArray} (h : litR l s = true) : courseP (tickS l) 1100 [] s = some (courseR l s) ∧ (courseR l s).1.length ≤ 1024 ∧ 0 ≤ (courseR l s).2 ∧ (courseR l s).2 < (courseR l s).1.length ∧ (∀ x ∈ (courseR l s).1, litR l x = true) ∧ (courseR l s).1.head? = some s := by
  obtain ⟨r1, r2, e, h1, h2, h3, h4, h5⟩ := courseP_some (lit_facts h).1 1100 [] s (by simp) (fun x hx => by cases hx) h (by simp)
  have : courseR l s = (r1, r2) := by simp [courseR, e]
  rw [this]
  exact ⟨e, h1, h2, h3, h4, by simpa using h5.symm⟩
theorem shl1 {n : Nat} (h : n ≤ 10) : shl .i64 1 (n : Int) = ((2 ^ n : Nat) : Int) := by
  have : n = 0 ∨ n = 1 ∨ n = 2 ∨ n = 3 ∨ n = 4 ∨ n = 5 ∨ n = 6 ∨ n = 7 ∨ n = 8 ∨ n = 9 ∨ n = 10 := by omega
  rcases this with rfl | rfl | rfl | rfl | rfl | rfl | rfl | rfl | rfl | rfl | rfl <;> decide +kernel
theorem laNumber_eq {l : List ByteArray} {s : ByteArray} (h : litR l s = true) : spec_laNumber.f s = some (numL s.data.toList : Int) := by
  obtain ⟨_, h1, _, h2, h3, h4⟩ := lit_facts h
  unfold spec_laNumber.f
  rw [if_pos ⟨by omega, h4⟩]
theorem laPath_l0 {l : List ByteArray} : ∀ (n : Nat) (acc : List ByteArray) (s : ByteArray) (seen : List Int) (r1 : List ByteArray) (r2 : Int), (∀ x ∈ acc, litR l x = true) → litR l s = true → acc.length + n ≤ 1100 → seen.length = 2 ^ l.length →
    (∀ x, litR l x = true → rd seen (numL x.data.toList : Int) = if x ∈ acc then (idxS acc x : Int) + 1 else 0) → courseP (tickS l) n acc s = some (r1, r2) → Ev (fun k => spec_laPath.l0 k s seen acc l) (r1, r2) := by
  intro n
  induction n with
  | zero => intro acc s seen r1 r2 _ _ _ _ _ h; cases h
  | succ n ih =>
    intro acc s seen r1 r2 hl hs hn hsl hseen h
    rw [courseP] at h
    have hnum := lit_num hs
    have hrd := hseen s hs
    by_cases hm : s ∈ acc
    · rw [if_pos hm] at h hrd
      simp only [Option.some.injEq, Prod.mk.injEq] at h
      obtain ⟨rfl, rfl⟩ := h
      refine Ev.last fun k => ?_
      have := idxS_lt hm
      rw [spec_laPath.l0, laNumber_eq hs, Option.bind_some, if_pos (by omega), if_pos (by omega), hrd, if_pos (by omega), w64 (by omega) (by omega)]
      simp
    · rw [if_neg hm] at h hrd
      refine Ev.next (f := fun k => spec_laPath.l0 k (tickS l s) (seen.set (numL s.data.toList) ((acc.length + 1 : Nat) : Int)) (acc ++ [s]) l) ⟨0, fun k _ => ?_⟩ (ih (acc ++ [s]) (tickS l s) _ r1 r2 ?_ (lit_tick hs) ?_ ?_ ?_ h)
      · rw [spec_laPath.l0, laNumber_eq hs, Option.bind_some, if_pos (by omega), if_pos (by omega), hrd, if_neg (by omega), if_pos (by omega)]
        simp only [Option.bind_some, laTick_eq hs]
        simp
      · intro x hx
        rcases List.mem_append.1 hx with h' | h'
        · exact hl x h'
        · simp at h'; subst h'; exact hs
      · simp; omega
      · simpa using hsl
      · intro x hx
        have hxn := lit_num hx
        by_cases hc : x = s
        · subst hc
          rw [if_pos (by simp), idxS_new hm]
          have : numL x.data.toList < seen.length := by omega
          simp [rd, this]
        · have hne : numL s.data.toList ≠ numL x.data.toList := fun e => hc (numS_inj hx hs e.symm)
          have h1 := hseen x hx
          have e1 : rd (seen.set (numL s.data.toList) ((acc.length + 1 : Nat) : Int)) (numL x.data.toList : Int) = rd seen (numL x.data.toList : Int) := by
            simp [rd, List.getElem?_set_ne hne, List.getD]
          rw [e1, h1]
          by_cases hi : x ∈ acc
          · rw [if_pos hi, if_pos (by simp [hi]), idxS_append hi]
          · rw [if_neg hi, if_neg (by simp [hi, hc])]
theorem laPath_ev {l : List ByteArray} {s : ByteArray} (h : litR l s = true) : Ev (fun k => spec_laPath.f k l s) (courseR l s) := by
  obtain ⟨h1, h2, h3, h4, _, _⟩ := lit_facts h
  have hp := pow10 h4
  have e := shl1 h4
  refine Ev.congr (f := fun k => spec_laPath.l0 k s (List.replicate (2 ^ s.size) 0) [] l) (fun k => ?_) ?_
  · have e0 : (0 : Int) ≤ ((2 ^ s.size : Nat) : Int) := Int.natCast_nonneg _
    unfold spec_laPath.f
    rw [e, if_pos e0, Int.toNat_natCast, if_pos (by omega)]
  · refine laPath_l0 1100 [] s _ _ _ (fun x hx => by cases hx) h (by simp) (by simp [h2]) (fun x hx => ?_) (courseR_eq h).1
    simp [rd, List.getD, List.getElem?_replicate]
    split <;> rfl

/-! ### after impl_Lamps_course -/
theorem course_eq {l : List ByteArray} {s : ByteArray} (h : litR l s = true) : impl_Lamps_course.f l s = some (courseR l s) := by
  unfold impl_Lamps_course.f
  rw [if_pos h, (courseR_eq h).1]

/-! ### after impl_LeadOfLamps -/
def leadR (l : List ByteArray) (s : ByteArray) : Int × Int × Bool := if litR l s = true then ((courseR l s).2, wrap64 (((courseR l s).1.length : Int) - (courseR l s).2), true) else (0, 0, false)
theorem implLead_eq (l : List ByteArray) (s : ByteArray) : impl_LeadOfLamps.f l s = some (leadR l s) := by
  simp only [impl_LeadOfLamps.f, lit_eq, Option.bind_some, leadR]
  by_cases h : litR l s = true
  · rw [if_pos h, if_pos h, course_eq h]; rfl
  · rw [if_neg h, if_neg h]
theorem specLead_ev (l : List ByteArray) (s : ByteArray) : Ev (fun k => spec_LeadOfLamps.f k l s) (leadR l s) := by
  by_cases h : litR l s = true
  · obtain ⟨K, hK⟩ := laPath_ev h
    exact ⟨K, fun k hk => by simp only [spec_LeadOfLamps.f, laAsked_eq, Option.bind_some, leadR, if_pos h, hK k hk]⟩
  · exact ⟨0, fun k hk => by simp only [spec_LeadOfLamps.f, laAsked_eq, Option.bind_some, leadR, if_neg h]⟩

/-! ### after spec_laAt -/
theorem laAt_some (l : List ByteArray) (a t : Int) (hl : l.length ≤ 1024) (h0 : 0 ≤ a) (h1 : a < l.length) (ht : 0 ≤ t) (ht1 : t ≤ 1000000) : ∃ r, spec_laAt.f l a t = some r := by
  unfold spec_laAt.f
  have e1 : wrap64 ((l.length : Int) - a) = (l.length : Int) - a := w64 (by omega) (by omega)
  have e2 : wrap64 (t - a) = t - a := w64 (by omega) (by omega)
  by_cases c : t < (l.length : Int)
  · rw [if_pos c, if_pos ht]; exact ⟨_, rfl⟩
  · rw [if_neg c, e1, e2, if_neg (by omega)]
    have h2 : 0 ≤ Int.tmod (t - a) ((l.length : Int) - a) := Int.tmod_nonneg _ (by omega)
    have h3 : Int.tmod (t - a) ((l.length : Int) - a) < (l.length : Int) - a := Int.tmod_lt_of_pos _ (by omega)
    have e3 : wrap64 (a + Int.tmod (t - a) ((l.length : Int) - a)) = a + Int.tmod (t - a) ((l.length : Int) - a) := w64 (by omega) (by omega)
    rw [e3, if_pos (by omega), if_pos (by omega)]
    exact ⟨_, rfl⟩

/-! ### after impl_TicksAfter -/
def ticksR (l : List ByteArray) (s : ByteArray) (t : Int) : ByteArray × Bool := if litR l s = true ∧ inB t 0 1000000 = true then ((spec_laAt.f (courseR l s).1 (courseR l s).2 t).getD ⟨#[]⟩, true) else (⟨#[]⟩, false)
theorem ticksR_at {l : List ByteArray} {s : ByteArray} {t : Int} (h : litR l s = true) (ht : inB t 0 1000000 = true) : spec_laAt.f (courseR l s).1 (courseR l s).2 t = some (ticksR l s t).1 ∧ (ticksR l s t).2 = true := by
  obtain ⟨_, h1, h2, h3, _, _⟩ := courseR_eq h
  obtain ⟨r, hr⟩ := laAt_some (courseR l s).1 (courseR l s).2 t h1 h2 h3 (inB_lo ht) (inB_hi ht)
  simp [ticksR, h, ht, hr]
theorem implTicks_ev (l : List ByteArray) (s : ByteArray) (t : Int) : Ev (fun k => impl_TicksAfter.f k l s t) (ticksR l s t) := by
  refine ⟨1, fun k hk => ?_⟩
  obtain ⟨k, rfl⟩ : ∃ m, k = m + 1 := ⟨k - 1, by omega⟩
  simp only [impl_TicksAfter.f, lit_eq, Option.bind_some, impl_isTicks.f, impl_in.f, inB_ite, impl_TicksAfter.j0]
  cases h : litR l s
  · simp [ticksR, h]
  · cases ht : inB t 0 1000000
    · simp [ticksR, h, ht]
    · have h1 := ticksR_at h ht
      have h2 : impl_after.f (courseR l s).1 (courseR l s).2 t = some (ticksR l s t).1 := h1.1
      simp [course_eq h, h2, ← h1.2]
theorem specTicks_ev (l : List ByteArray) (s : ByteArray) (t : Int) : Ev (fun k => spec_TicksAfter.f k l s t) (ticksR l s t) := by
  cases h : litR l s
  · refine ⟨1, fun k hk => ?_⟩
    obtain ⟨k, rfl⟩ : ∃ m, k = m + 1 := ⟨k - 1, by omega⟩
    simp [spec_TicksAfter.f, laAsked_eq, h, spec_TicksAfter.j0, ticksR]
  · obtain ⟨K, hK⟩ := laPath_ev h
    refine ⟨K + 1, fun k hk => ?_⟩
    obtain ⟨k, rfl⟩ : ∃ m, k = m + 1 := ⟨k - 1, by omega⟩
    simp only [spec_TicksAfter.f, laAsked_eq, h, Option.bind_some, spec_laTicks.f, spec_l1In.f, inB_ite, spec_TicksAfter.j0]
    cases ht : inB t 0 1000000
    · simp [ticksR, h, ht]
    · have h1 := ticksR_at h ht
      simp [hK k (by omega), h1.1, ← h1.2]

/-! ### after impl_FirstTick -/
def hitR (i : Int) (R : List ByteArray) : Int × Bool := if idxI (fun x => bt x i == 49) R < 0 then (0, false) else (idxI (fun x => bt x i == 49) R, true)
def firstR (l : List ByteArray) (s : ByteArray) (i : Int) : Int × Bool := if litR l s = true ∧ inB i 0 (wrap64 ((s.size : Int) - 1)) = true then hitR i (courseR l s).1 else (0, false)
theorem first_l0 (R : List ByteArray) (i : Int) (h0 : 0 ≤ i) (hall : ∀ x ∈ R, i < x.size) (hR : R.length ≤ 1024) : ∀ (n p : Nat), p + n = R.length → (∀ j (hj : j < R.length), j < p → (bt R[j] i == 49) = false) → Ev (fun k => spec_FirstTick.l0 k i R (R.length : Int) (p : Int)) (hitR i R) := by
  intro n
  induction n with
  | zero =>
    intro p hp hn
    have hm : idxI (fun x => bt x i == 49) R = -1 := idxI_miss _ _ (fun j hj => hn j hj (by omega))
    refine Ev.last fun k => ?_
    rw [spec_FirstTick.l0, if_neg (by omega), hitR, hm]
    rfl
  | succ n ih =>
    intro p hp hn
    have hpl : p < R.length := by omega
    have er : rdOf ByteArray.empty R (p : Int) = R[p] := by simp [rdOf, hpl]
    have hz := hall R[p] (List.getElem_mem hpl)
    have ew : wrap64 ((p : Int) + 1) = ((p + 1 : Nat) : Int) := by rw [w64 (by omega) (by omega)]; omega
    by_cases c : bt R[p] i = 49
    · have hm : idxI (fun x => bt x i == 49) R = p := idxI_hit _ _ p hpl (by simp [c]) (fun j hj => hn j (by omega) hj)
      refine Ev.last fun k => ?_
      rw [spec_FirstTick.l0, if_pos (by omega), if_pos (by omega), if_pos (by omega), if_pos (by omega), er, if_pos (by omega), if_pos c, hitR, hm, if_neg (by omega)]
    · refine Ev.next ⟨0, fun k _ => ?_⟩ (ih (p + 1) (by omega) (fun j hj h => (Nat.lt_succ_iff_lt_or_eq.1 h).elim (hn j hj) (fun e => by subst e; simpa using c)))
      rw [spec_FirstTick.l0, if_pos (by omega), if_pos (by omega), if_pos (by omega), if_pos (by omega), er, if_pos (by omega), if_neg c, ew]
theorem implFirst_eq (l : List ByteArray) (s : ByteArray) (i : Int) : impl_FirstTick.f l s i = some (firstR l s i) := by
  simp only [impl_FirstTick.f, lit_eq, Option.bind_some, firstR]
  cases h : litR l s
  · simp
  · cases hi : inB i 0 (wrap64 ((s.size : Int) - 1))
    · simp
    · obtain ⟨_, h1, _, h4, _, _⟩ := lit_facts h
      have h5 := inB_hi hi
      rw [w64 (by omega) (by omega)] at h5
      have hall : ((courseR l s).1.all fun x => decide (i < x.size)) = true := List.all_eq_true.2 (fun x hx => by
        obtain ⟨_, h6, _, _, _, _⟩ := lit_facts ((courseR_eq h).2.2.2.2.1 x hx)
        simp; omega)
      simp only [if_true, course_eq h, Option.bind_some, hall, and_self, hitR]
theorem specFirst_ev (l : List ByteArray) (s : ByteArray) (i : Int) : Ev (fun k => spec_FirstTick.f k l s i) (firstR l s i) := by
  cases h : litR l s
  · refine ⟨1, fun k hk => ?_⟩
    obtain ⟨k, rfl⟩ : ∃ m, k = m + 1 := ⟨k - 1, by omega⟩
    simp [spec_FirstTick.f, laAsked_eq, h, spec_FirstTick.j0, firstR]
  · cases hi : inB i 0 (wrap64 ((s.size : Int) - 1))
    · refine ⟨1, fun k hk => ?_⟩
      obtain ⟨k, rfl⟩ : ∃ m, k = m + 1 := ⟨k - 1, by omega⟩
      simp [spec_FirstTick.f, laAsked_eq, h, spec_l1In.f, inB_ite, hi, spec_FirstTick.j0, firstR]
    · obtain ⟨_, h1, _, h4, _, _⟩ := lit_facts h
      have h5 := inB_hi hi
      rw [w64 (by omega) (by omega)] at h5
      obtain ⟨_, c1, _, _, c5, _⟩ := courseR_eq h
      obtain ⟨K1, hK1⟩ := laPath_ev h
      obtain ⟨K2, hK2⟩ := first_l0 (courseR l s).1 i (inB_lo hi) (fun x hx => by
        obtain ⟨_, h6, _, _, _, _⟩ := lit_facts (c5 x hx)
        omega) c1 (courseR l s).1.length 0 (by omega) (fun j _ h => absurd h (by omega))
      refine ⟨K1 + K2 + 1, fun k hk => ?_⟩
      obtain ⟨k, rfl⟩ : ∃ m, k = m + 1 := ⟨k - 1, by omega⟩
      have e1 := hK1 k (by omega)
      have e2 := hK2 k (by omega)
      simp only [spec_FirstTick.f, laAsked_eq, h, Option.bind_some, spec_l1In.f, inB_ite, hi, spec_FirstTick.j0, firstR]
      simp only at e1 e2
      simp [e1]
      simpa using e2

/-! ### after impl_TimesChanging -/
/-- One state of the course is left: the lamps below k that change there are counted. -/
def updK (l : List ByteArray) (t : ByteArray) (v : Int) (out : List Int) : Nat → List Int
  | 0 => out
  | k + 1 => if meetsL (l.getD k ByteArray.empty).data.toList t.data.toList = true then (updK l t v out k).set k (wrap64 (rd (updK l t v out k) (k : Int) + v)) else updK l t v out k
theorem updK_length (l : List ByteArray) (t : ByteArray) (v : Int) (out : List Int) : ∀ k, (updK l t v out k).length = out.length
  | 0 => rfl
  | k + 1 => by
    have ih := updK_length l t v out k
    unfold updK
    split
    · simpa using ih
    · exact ih
def timesV (n : Nat) (lead ticks i : Int) : Int := if i < ticks then (if i ≥ lead then wrap64 (wrap64 (Int.tdiv (wrap64 (wrap64 (ticks - 1) - i)) (wrap64 ((n : Int) - lead))) + 1) else 1) else 0
def runL (l : List ByteArray) (n : Nat) (lead ticks : Int) : List ByteArray → Nat → List Int → List Int
  | [], _, out => out
  | t :: r, i, out => runL l n lead ticks r (i + 1) (updK l t (timesV n lead ticks (i : Int)) out l.length)
theorem runL_length (l : List ByteArray) (n : Nat) (lead ticks : Int) : ∀ (R : List ByteArray) (i : Nat) (out : List Int), (runL l n lead ticks R i out).length = out.length
  | [], _, _ => rfl
  | t :: r, i, out => by rw [runL, runL_length l n lead ticks r, updK_length]
theorem chg_eq {l : List ByteArray} {t : ByteArray} (h : litR l t = true) (k : Nat) (hk : k < l.length) : spec_laChanges.f l t (k : Int) = some (meetsL (l.getD k ByteArray.empty).data.toList t.data.toList) := by
  obtain ⟨_, h1, _, h2, h3, _⟩ := lit_facts h
  have er : rdOf ByteArray.empty l (k : Int) = l.getD k ByteArray.empty := by simp [rdOf]
  have eg : l.getD k ByteArray.empty = l[k] := by simp [List.getD, List.getElem?_eq_getElem hk]
  unfold spec_laChanges.f
  rw [er, if_pos ⟨by omega, by omega, by rw [eg]; exact h3 _ (List.getElem_mem hk), by omega⟩]
theorem flip_eq {l : List ByteArray} {t : ByteArray} (h : litR l t = true) (k : Nat) (hk : k < l.length) : (bt (tickS l t) (k : Int) = bt t (k : Int)) ↔ meetsL (l.getD k ByteArray.empty).data.toList t.data.toList = false := by
  obtain ⟨_, h1, _, h2, h3, h4⟩ := lit_facts h
  have hz := Lib.size_eq t
  have hkt : k < t.data.toList.length := by omega
  have eg : l.getD k ByteArray.empty = l[k] := by simp [List.getD, List.getElem?_eq_getElem hk]
  have hkn : k < (tickS l t).data.toList.length := by
    show k < (tickL l t.data.toList).toArray.toList.length
    simp [tickL]; omega
  have e1 := bt_nat t k hkt
  have e2 := bt_nat (tickS l t) k hkn
  have e3 : (tickS l t).data.toList[k] = if meetsL l[k].data.toList t.data.toList = true then 97 - t.data.toList[k] else t.data.toList[k] := by simp [tickS, tickL]
  rw [e1, e2, e3, eg]
  have hb := List.all_eq_true.1 h4 _ (List.getElem_mem hkt)
  generalize t.data.toList[k] = b at hb
  simp only [isBit, Bool.or_eq_true, beq_iff_eq] at hb
  cases meetsL l[k].data.toList t.data.toList
  · simp
  · rcases hb with rfl | rfl <;> simp <;> decide
theorem specTimes_l1 {l : List ByteArray} {t : ByteArray} (h : litR l t = true) (tk ld v ln : Int) (R : List ByteArray) (i : Nat) (hi : i ≤ 1024) (out : List Int) (ho : out.length = l.length) (r : List Int × Bool) :
    Ev (fun k => spec_TimesChanging.l0 k tk R ld (updK l t v out l.length) R ln ((i + 1 : Nat) : Int) l) r → ∀ (m p : Nat), p + m = l.length → Ev (fun k => spec_TimesChanging.l1 k tk R ld (updK l t v out p) t v R ln (i : Int) (l.length : Int) (p : Int) l) r := by
  intro hr m
  obtain ⟨_, h1, _, h2, _, _⟩ := lit_facts h
  induction m with
  | zero =>
    intro p hp
    obtain rfl : p = l.length := by omega
    refine Ev.next ⟨0, fun k _ => ?_⟩ hr
    rw [spec_TimesChanging.l1, if_neg (by omega), w64 (by omega) (by omega)]
    rfl
  | succ m ih =>
    intro p hp
    have hlen := updK_length l t v out p
    have ew : wrap64 ((p : Int) + 1) = ((p + 1 : Nat) : Int) := by rw [w64 (by omega) (by omega)]; omega
    refine Ev.next ⟨0, fun k _ => ?_⟩ (ih (p + 1) (by omega))
    rw [spec_TimesChanging.l1, if_pos (by omega), chg_eq h p (by omega), Option.bind_some, ew]
    cases hm : meetsL (l.getD p ByteArray.empty).data.toList t.data.toList
    · have e : updK l t v out (p + 1) = updK l t v out p := by rw [updK, hm]; rfl
      rw [e]; simp
    · have e : updK l t v out (p + 1) = (updK l t v out p).set p (wrap64 (rd (updK l t v out p) (p : Int) + v)) := by rw [updK, hm]; rfl
      rw [if_pos rfl, if_pos (by omega), if_pos (by omega), e, Int.toNat_natCast]
theorem implTimes_l1 {l : List ByteArray} {t : ByteArray} (h : litR l t = true) (tk ld v ln : Int) (R : List ByteArray) (i : Nat) (hi : i ≤ 1024) (out : List Int) (ho : out.length = l.length) (r : List Int × Bool) :
    Ev (fun k => impl_TimesChanging.l0 k tk R ld (updK l t v out l.length) R ln ((i + 1 : Nat) : Int) l) r → ∀ (m p : Nat), p + m = l.length → Ev (fun k => impl_TimesChanging.l1 k tk R ld (updK l t v out p) t v (tickS l t) R ln (i : Int) (l.length : Int) (p : Int) l) r := by
  intro hr m
  obtain ⟨_, h1, _, h2, _, _⟩ := lit_facts h
  have hsz := tickS_size h1
  induction m with
  | zero =>
    intro p hp
    obtain rfl : p = l.length := by omega
    refine Ev.next ⟨0, fun k _ => ?_⟩ hr
    rw [impl_TimesChanging.l1, if_neg (by omega), w64 (by omega) (by omega)]
    rfl
  | succ m ih =>
    intro p hp
    have hlen := updK_length l t v out p
    have ew : wrap64 ((p : Int) + 1) = ((p + 1 : Nat) : Int) := by rw [w64 (by omega) (by omega)]; omega
    have hf := flip_eq h p (by omega)
    refine Ev.next ⟨0, fun k _ => ?_⟩ (ih (p + 1) (by omega))
    rw [impl_TimesChanging.l1, if_pos (by omega), if_pos (by omega), if_pos (by omega), if_pos (by omega), ew]
    cases hm : meetsL (l.getD p ByteArray.empty).data.toList t.data.toList
    · have e : updK l t v out (p + 1) = updK l t v out p := by rw [updK, hm]; rfl
      rw [e, if_pos (hf.mpr hm)]
    · have e : updK l t v out (p + 1) = (updK l t v out p).set p (wrap64 (rd (updK l t v out p) (p : Int) + v)) := by rw [updK, hm]; rfl
      rw [if_neg (fun hq => by have := hf.mp hq; rw [hm] at this; cases this), if_pos (by omega), e, Int.toNat_natCast]
theorem specTimes_l0 {l : List ByteArray} (tk ld : Int) (R : List ByteArray) (hR : ∀ x ∈ R, litR l x = true) (hn : R.length ≤ 1024) (h0 : 0 ≤ ld) (h1 : ld < R.length) : ∀ (m i : Nat) (out : List Int), i + m = R.length → out.length = l.length →
    Ev (fun k => spec_TimesChanging.l0 k tk R ld out R (R.length : Int) (i : Int) l) (runL l R.length ld tk (R.drop i) i out, true) := by
  intro m
  induction m with
  | zero =>
    intro i out hi ho
    rw [List.drop_of_length_le (by omega)]
    refine Ev.last fun k => ?_
    rw [spec_TimesChanging.l0, if_neg (by omega)]
    rfl
  | succ m ih =>
    intro i out hi ho
    have hil : i < R.length := by omega
    have er : rdOf ByteArray.empty R (i : Int) = R[i] := by simp [rdOf, hil]
    have hx := hR R[i] (List.getElem_mem hil)
    rw [List.drop_eq_getElem_cons hil, runL]
    have hin := specTimes_l1 hx tk ld (timesV R.length ld tk (i : Int)) (R.length : Int) R i (by omega) out ho _ (ih (i + 1) _ (by omega) (by rw [updK_length]; exact ho)) l.length 0 (by omega)
    have e0 : updK l R[i] (timesV R.length ld tk (i : Int)) out 0 = out := rfl
    rw [e0] at hin
    refine Ev.next (f := fun k => spec_TimesChanging.j2 k tk R ld out R[i] (timesV R.length ld tk (i : Int)) R (R.length : Int) (i : Int) l) ⟨0, fun k _ => ?_⟩ (Ev.next ⟨0, fun k _ => ?_⟩ hin)
    · have ed : ¬ wrap64 ((R.length : Int) - ld) = 0 := by rw [w64 (by omega) (by omega)]; omega
      rw [spec_TimesChanging.l0, if_pos (by omega), if_pos (by omega), if_pos (by omega), er]
      unfold timesV
      by_cases c1 : (i : Int) < tk
      · by_cases c2 : (i : Int) ≥ ld
        · rw [if_pos c1, if_pos c2, if_neg ed, if_pos c1, if_pos c2]
        · rw [if_pos c1, if_neg c2, if_pos c1, if_neg c2]
      · rw [if_neg c1, if_neg c1]
    · rw [spec_TimesChanging.j2, ho]
      rfl
theorem implTimes_l0 {l : List ByteArray} (tk ld : Int) (R : List ByteArray) (hR : ∀ x ∈ R, litR l x = true) (hn : R.length ≤ 1024) (h0 : 0 ≤ ld) (h1 : ld < R.length) : ∀ (m i : Nat) (out : List Int), i + m = R.length → out.length = l.length →
    Ev (fun k => impl_TimesChanging.l0 k tk R ld out R (R.length : Int) (i : Int) l) (runL l R.length ld tk (R.drop i) i out, true) := by
  intro m
  induction m with
  | zero =>
    intro i out hi ho
    rw [List.drop_of_length_le (by omega)]
    refine Ev.last fun k => ?_
    rw [impl_TimesChanging.l0, if_neg (by omega)]
    rfl
  | succ m ih =>
    intro i out hi ho
    have hil : i < R.length := by omega
    have er : rdOf ByteArray.empty R (i : Int) = R[i] := by simp [rdOf, hil]
    have hx := hR R[i] (List.getElem_mem hil)
    rw [List.drop_eq_getElem_cons hil, runL]
    have hin := implTimes_l1 hx tk ld (timesV R.length ld tk (i : Int)) (R.length : Int) R i (by omega) out ho _ (ih (i + 1) _ (by omega) (by rw [updK_length]; exact ho)) l.length 0 (by omega)
    have e0 : updK l R[i] (timesV R.length ld tk (i : Int)) out 0 = out := rfl
    rw [e0] at hin
    refine Ev.next (f := fun k => impl_TimesChanging.j2 k tk R ld out R[i] (timesV R.length ld tk (i : Int)) R (R.length : Int) (i : Int) l) ⟨0, fun k _ => ?_⟩ (Ev.next ⟨0, fun k _ => ?_⟩ hin)
    · have ed : ¬ wrap64 ((R.length : Int) - ld) = 0 := by rw [w64 (by omega) (by omega)]; omega
      rw [impl_TimesChanging.l0, if_pos (by omega), if_pos (by omega), if_pos (by omega), er]
      unfold timesV
      by_cases c1 : (i : Int) < tk
      · by_cases c2 : (i : Int) ≥ ld
        · rw [if_neg (by omega), if_neg (by omega), if_neg ed, if_pos c1, if_pos c2]
        · rw [if_neg (by omega), if_pos (by omega), if_pos c1, if_neg c2]
      · rw [if_pos (by omega), if_neg c1]
    · rw [impl_TimesChanging.j2, tick_eq hx, Option.bind_some, ho]
      rfl
def timesR (l : List ByteArray) (s : ByteArray) (tk : Int) : List Int × Bool := if litR l s = true ∧ inB tk 0 1000000 = true then (runL l (courseR l s).1.length (courseR l s).2 tk (courseR l s).1 0 (List.replicate s.size 0), true) else ([], false)
theorem timesR_length (l : List ByteArray) (s : ByteArray) (tk : Int) : (timesR l s tk).1.length ≤ 10 := by
  unfold timesR
  split
  · rename_i h
    have := (lit_facts h.1).2.2.2.1
    rw [runL_length]
    simpa using this
  · simp
theorem implTimes_ev (l : List ByteArray) (s : ByteArray) (tk : Int) : Ev (fun k => impl_TimesChanging.f k l s tk) (timesR l s tk) := by
  cases h : litR l s
  · refine ⟨1, fun k hk => ?_⟩
    obtain ⟨k, rfl⟩ : ∃ m, k = m + 1 := ⟨k - 1, by omega⟩
    simp [impl_TimesChanging.f, lit_eq, h, impl_TimesChanging.j0, timesR]
  · cases ht : inB tk 0 1000000
    · refine ⟨1, fun k hk => ?_⟩
      obtain ⟨k, rfl⟩ : ∃ m, k = m + 1 := ⟨k - 1, by omega⟩
      simp [impl_TimesChanging.f, lit_eq, h, impl_isTicks.f, impl_in.f, inB_ite, ht, impl_TimesChanging.j0, timesR]
    · obtain ⟨_, c1, c2, c3, c5, _⟩ := courseR_eq h
      obtain ⟨_, h1, _, h4, _, _⟩ := lit_facts h
      obtain ⟨K, hK⟩ := implTimes_l0 tk (courseR l s).2 (courseR l s).1 c5 c1 c2 c3 (courseR l s).1.length 0 (List.replicate s.size 0) (by omega) (by simp [h1])
      refine ⟨K + 1, fun k hk => ?_⟩
      obtain ⟨k, rfl⟩ : ∃ m, k = m + 1 := ⟨k - 1, by omega⟩
      have e2 := hK k (by omega)
      simp only [List.drop_zero] at e2
      simp only [impl_TimesChanging.f, lit_eq, h, Option.bind_some, impl_isTicks.f, impl_in.f, inB_ite, ht, impl_TimesChanging.j0, timesR, course_eq h, if_true, and_self, Bool.not_true, Bool.false_eq_true, if_false, Int.toNat_natCast]
      rw [if_pos (by omega), if_pos (by omega)]
      exact e2
theorem specTimes_ev (l : List ByteArray) (s : ByteArray) (tk : Int) : Ev (fun k => spec_TimesChanging.f k l s tk) (timesR l s tk) := by
  cases h : litR l s
  · refine ⟨1, fun k hk => ?_⟩
    obtain ⟨k, rfl⟩ : ∃ m, k = m + 1 := ⟨k - 1, by omega⟩
    simp [spec_TimesChanging.f, laAsked_eq, h, spec_TimesChanging.j0, timesR]
  · cases ht : inB tk 0 1000000
    · refine ⟨1, fun k hk => ?_⟩
      obtain ⟨k, rfl⟩ : ∃ m, k = m + 1 := ⟨k - 1, by omega⟩
      simp [spec_TimesChanging.f, laAsked_eq, h, spec_laTicks.f, spec_l1In.f, inB_ite, ht, spec_TimesChanging.j0, timesR]
    · obtain ⟨_, c1, c2, c3, c5, _⟩ := courseR_eq h
      obtain ⟨_, h1, _, h4, _, _⟩ := lit_facts h
      obtain ⟨K1, hK1⟩ := laPath_ev h
      obtain ⟨K2, hK2⟩ := specTimes_l0 tk (courseR l s).2 (courseR l s).1 c5 c1 c2 c3 (courseR l s).1.length 0 (List.replicate s.size 0) (by omega) (by simp [h1])
      refine ⟨K1 + K2 + 1, fun k hk => ?_⟩
      obtain ⟨k, rfl⟩ : ∃ m, k = m + 1 := ⟨k - 1, by omega⟩
      have e1 := hK1 k (by omega)
      have e2 := hK2 k (by omega)
      simp only [List.drop_zero] at e1 e2
      simp only [spec_TimesChanging.f, laAsked_eq, h, Option.bind_some, spec_laTicks.f, spec_l1In.f, inB_ite, ht, spec_TimesChanging.j0, timesR, e1, if_true, and_self, Bool.not_true, Bool.false_eq_true, if_false, Int.toNat_natCast]
      rw [if_pos (by omega), if_pos (by omega)]
      exact e2

/-! ### after impl_CycleOfLamps -/
theorem cyS_length (C : List ByteArray) : (cyS C).length = C.length := by
  unfold cyS
  rw [List.length_append, List.length_drop, List.length_take]
  omega
def cycleR (l : List ByteArray) (s : ByteArray) : List ByteArray × Bool := if litR l s = true then (cyS ((courseR l s).1.drop (courseR l s).2.toNat), true) else ([], false)
theorem cycleR_len (l : List ByteArray) (s : ByteArray) : (cycleR l s).1.length ≤ 1024 := by
  unfold cycleR
  by_cases h : litR l s = true
  · rw [if_pos h]
    have := (courseR_eq h).2.1
    simp only [cyS_length, List.length_drop]
    omega
  · rw [if_neg h]; simp
theorem implCycle_eq (l : List ByteArray) (s : ByteArray) : impl_CycleOfLamps.f l s = some (cycleR l s) := by
  unfold impl_CycleOfLamps.f cycleR
  rw [lit_eq, Option.bind_some]
  by_cases h : litR l s = true
  · obtain ⟨_, h1, h2, h3, _, _⟩ := courseR_eq h
    rw [if_pos h, if_pos h, course_eq h, Option.bind_some, if_pos ⟨h2, h3, by omega⟩]
  · rw [if_neg h, if_neg h]

/-! ### after spec_CycleOfLamps -/
/-- At m stands the least of the first i texts, for the first time. -/
def leastOk (C : List ByteArray) (i m : Nat) : Prop :=
  m < C.length ∧ (i = 0 → m = 0) ∧ (0 < i → m < i ∧ C.getD m ByteArray.empty = Lib.minOfS (C.take i) ∧ (∀ j, j < m → ¬ C.getD j ByteArray.empty = C.getD m ByteArray.empty) ∧ (∀ j, j < i → ¬ (C.getD j ByteArray.empty).data.toList < (C.getD m ByteArray.empty).data.toList))
theorem least_first (C : List ByteArray) (h : 0 < C.length) : leastOk C 1 0 := by
  refine ⟨h, fun e => by omega, fun _ => ⟨by omega, ?_, fun j hj => by omega, fun j hj => ?_⟩⟩
  · obtain ⟨a, r, rfl⟩ : ∃ a r, C = a :: r := by cases C with | nil => simp at h | cons a r => exact ⟨a, r, rfl⟩
    simp [Lib.minOfS, Lib.minS]
  · obtain rfl : j = 0 := by omega
    exact List.lt_irrefl _
theorem least_new {C : List ByteArray} {i m : Nat} (hi : i < C.length) (h0 : 0 < i) (h : leastOk C i m) (hl : (C.getD i ByteArray.empty).data.toList < (C.getD m ByteArray.empty).data.toList) : leastOk C (i + 1) i := by
  obtain ⟨h1, _, h3⟩ := h
  obtain ⟨h4, h5, h6, h7⟩ := h3 h0
  have eg : C[i] = C.getD i ByteArray.empty := by simp [List.getD, hi]
  refine ⟨hi, fun e => by omega, fun _ => ⟨by omega, ?_, fun j hj e => ?_, fun j hj hc => ?_⟩⟩
  · rw [minOfS_take C i hi h0, ← h5, eg]
    unfold Lib.minS
    rw [if_neg]
    rintro (h | h)
    · exact List.lt_asymm h hl
    · rw [h] at hl; exact List.lt_irrefl _ hl
  · rw [← e] at hl; exact h7 j hj hl
  · rcases Nat.lt_or_ge j i with h | h
    · exact h7 j h (List.lt_trans hc hl)
    · obtain rfl : j = i := by omega
      exact List.lt_irrefl _ hc
theorem least_old {C : List ByteArray} {i m : Nat} (hi : i < C.length) (h0 : 0 < i) (h : leastOk C i m) (hl : ¬ (C.getD i ByteArray.empty).data.toList < (C.getD m ByteArray.empty).data.toList) : leastOk C (i + 1) m := by
  obtain ⟨h1, _, h3⟩ := h
  obtain ⟨h4, h5, h6, h7⟩ := h3 h0
  have eg : C[i] = C.getD i ByteArray.empty := by simp [List.getD, hi]
  refine ⟨h1, fun e => by omega, fun _ => ⟨by omega, ?_, h6, fun j hj => ?_⟩⟩
  · rw [minOfS_take C i hi h0, ← h5, eg]
    unfold Lib.minS
    rw [if_pos]
    by_cases c : (C.getD m ByteArray.empty).data.toList < (C.getD i ByteArray.empty).data.toList
    · exact .inl c
    · exact .inr (List.le_antisymm hl c)
  · rcases Nat.lt_or_ge j i with h | h
    · exact h7 j h
    · obtain rfl : j = i := by omega
      exact hl
theorem least_end {C : List ByteArray} {m : Nat} (hp : 0 < C.length) (h : leastOk C C.length m) : m = cyI C := by
  obtain ⟨h1, _, h3⟩ := h
  obtain ⟨_, h5, h6, _⟩ := h3 hp
  rw [List.take_length] at h5
  have eg : ∀ j (hj : j < C.length), C.getD j ByteArray.empty = C[j] := fun j hj => by simp [List.getD, hj]
  unfold cyI idxS
  refine ((List.findIdx_eq h1).2 ⟨?_, fun j hj => ?_⟩).symm
  · rw [← eg m h1, h5]; simp
  · have := h6 j hj
    rw [h5, eg j (by omega)] at this
    simpa using this
theorem cyc_l0 (C : List ByteArray) (hp : 0 < C.length) (hC : C.length ≤ 1100) : ∀ (n i m : Nat), i + n = C.length → leastOk C i m → Ev (fun k => spec_CycleOfLamps.l0 k C (m : Int) C (C.length : Int) (i : Int)) (cyS C, true) := by
  intro n
  induction n with
  | zero =>
    intro i m hi h
    obtain rfl : i = C.length := by omega
    have hm := least_end hp h
    have h1 := h.1
    refine Ev.last fun k => ?_
    rw [spec_CycleOfLamps.l0, if_neg (by omega), Option.bind_some, if_pos (by omega), if_pos (by omega), Int.toNat_natCast, if_pos (by simp; omega), Option.bind_some, if_pos (by simp; omega)]
    rw [cyS, ← hm]
    rfl
  | succ n ih =>
    intro i m hi h
    have hi' : i < C.length := by omega
    have h1 := h.1
    have er : rdOf ByteArray.empty C (i : Int) = C.getD i ByteArray.empty := by simp [rdOf]
    have em : rdOf ByteArray.empty C (m : Int) = C.getD m ByteArray.empty := by simp [rdOf]
    have ew : wrap64 ((i : Int) + 1) = ((i + 1 : Nat) : Int) := by rw [w64 (by omega) (by omega)]; omega
    by_cases c : (C.getD i ByteArray.empty).data.toList < (C.getD m ByteArray.empty).data.toList
    · have h0 : 0 < i := by
        rcases Nat.eq_zero_or_pos i with e | e
        · have := h.2.1 e
          subst e this
          exact absurd c (List.lt_irrefl _)
        · exact e
      refine Ev.next ⟨0, fun k _ => ?_⟩ (ih (i + 1) i (by omega) (least_new hi' h0 h c))
      rw [spec_CycleOfLamps.l0, if_pos (by omega), if_pos (by omega), if_pos (by omega), if_pos (by omega), if_pos (by omega), er, em, ew, bytesLess_eq, Lib.toList_data, Lib.toList_data, if_pos (decide_eq_true c)]
    · have h' : leastOk C (i + 1) m := by
        rcases Nat.eq_zero_or_pos i with e | e
        · have := h.2.1 e
          subst e this
          exact least_first C hp
        · exact least_old hi' e h c
      refine Ev.next ⟨0, fun k _ => ?_⟩ (ih (i + 1) m (by omega) h')
      rw [spec_CycleOfLamps.l0, if_pos (by omega), if_pos (by omega), if_pos (by omega), if_pos (by omega), if_pos (by omega), er, em, ew, bytesLess_eq, Lib.toList_data, Lib.toList_data, if_neg (by simpa using c)]
theorem specCycle_ev (l : List ByteArray) (s : ByteArray) : Ev (fun k => spec_CycleOfLamps.f k l s) (cycleR l s) := by
  unfold cycleR
  by_cases h : litR l s = true
  · obtain ⟨_, h1, h2, h3, _, _⟩ := courseR_eq h
    obtain ⟨K1, hK1⟩ := laPath_ev h
    generalize courseR l s = R at h1 h2 h3 hK1
    obtain ⟨P, d⟩ := R
    simp only at h1 h2 h3
    obtain ⟨d, rfl⟩ : ∃ e : Nat, d = (e : Int) := ⟨d.toNat, by omega⟩
    have hl : (P.drop d).length = P.length - d := List.length_drop
    obtain ⟨K2, hK2⟩ := cyc_l0 (P.drop d) (by omega) (by omega) (P.drop d).length 0 0 (by omega) ⟨by omega, fun _ => rfl, fun e => absurd e (by omega)⟩
    refine ⟨K1 + K2, fun k hk => ?_⟩
    have hK1 := hK1 k (by omega)
    have hK2 := hK2 k (by omega)
    simp only at hK1 hK2
    simp only [spec_CycleOfLamps.f, laAsked_eq, h, hK1, Option.bind_some, if_true, Int.toNat_natCast]
    rw [if_pos (by omega), if_pos (by omega)]
    exact hK2
  · have hf : litR l s = false := by simpa using h
    exact ⟨0, fun k _ => by simp [spec_CycleOfLamps.f, laAsked_eq, hf]⟩

/-! ### after impl_TicksAfter -/
/-- So many ticks. -/
def tkN (T : ByteArray → ByteArray) : Nat → ByteArray → ByteArray
  | 0, s => s
  | n + 1, s => T (tkN T n s)
theorem tkN_add (T : ByteArray → ByteArray) (a : Nat) (s : ByteArray) : ∀ k, tkN T (a + k) s = tkN T k (tkN T a s)
  | 0 => rfl
  | k + 1 => by show T (tkN T (a + k) s) = T (tkN T k (tkN T a s)); rw [tkN_add T a s k]
theorem tkN_mod (T : ByteArray → ByteArray) (s : ByteArray) (n d : Nat) (hd : d < n) (h : tkN T n s = tkN T d s) : ∀ t, d ≤ t → tkN T t s = tkN T (d + (t - d) % (n - d)) s := by
  intro t
  induction t using Nat.strongRecOn with
  | ind t ih =>
    intro ht
    rcases Nat.lt_or_ge t n with c | c
    · rw [Nat.mod_eq_of_lt (by omega), show d + (t - d) = t by omega]
    · have h1 := ih (d + (t - n)) (by omega) (by omega)
      have e1 : tkN T t s = tkN T (d + (t - n)) s := by
        rw [tkN_add T d s (t - n), ← h, ← tkN_add T n s (t - n), show n + (t - n) = t by omega]
      have e2 : (t - d) % (n - d) = (d + (t - n) - d) % (n - d) := by
        rw [show t - d = (d + (t - n) - d) + (n - d) by omega, Nat.add_mod_right]
      rw [e1, h1, e2]
theorem getD_idxS {acc : List ByteArray} {s : ByteArray} (h : s ∈ acc) : acc.getD (idxS acc s) ByteArray.empty = s := by
  have h1 := idxS_lt h
  have h2 := List.findIdx_getElem (p := fun x => decide (x = s)) (xs := acc) (w := h1)
  rw [List.getD, List.getElem?_eq_getElem h1]
  exact of_decide_eq_true h2
theorem courseP_path (T : ByteArray → ByteArray) (s0 : ByteArray) : ∀ (n : Nat) (acc : List ByteArray) (s : ByteArray) (R : List ByteArray) (d : Int), acc.Nodup → (∀ i, i < acc.length → acc.getD i ByteArray.empty = tkN T i s0) → s = tkN T acc.length s0 → courseP T n acc s = some (R, d) →
    R.Nodup ∧ (∀ i, i < R.length → R.getD i ByteArray.empty = tkN T i s0) ∧ 0 ≤ d ∧ d.toNat < R.length ∧ tkN T R.length s0 = tkN T d.toNat s0 := by
  intro n
  induction n with
  | zero => intro acc s R d _ _ _ h; cases h
  | succ n ih =>
    intro acc s R d hn hp hs h
    rw [courseP] at h
    by_cases hm : s ∈ acc
    · rw [if_pos hm] at h
      simp only [Option.some.injEq, Prod.mk.injEq] at h
      obtain ⟨rfl, rfl⟩ := h
      have h1 := idxS_lt hm
      refine ⟨hn, hp, by omega, by omega, ?_⟩
      rw [← hs, Int.toNat_natCast, ← hp _ h1, getD_idxS hm]
    · rw [if_neg hm] at h
      refine ih (acc ++ [s]) (T s) R d ?_ ?_ ?_ h
      · rw [List.nodup_append]
        refine ⟨hn, by simp, ?_⟩
        intro a ha b hb
        simp at hb
        rintro rfl
        exact hm (hb ▸ ha)
      · intro i hi
        rw [List.length_append, List.length_singleton] at hi
        rcases Nat.lt_or_ge i acc.length with c | c
        · rw [← hp i c, List.getD, List.getD, List.getElem?_append_left c]
        · obtain rfl : i = acc.length := by omega
          rw [List.getD, List.getElem?_append_right (Nat.le_refl _), hs]
          simp
      · rw [List.length_append, List.length_singleton, hs]
        rfl
/-- A course: its states are those behind 0, 1, .. ticks, all different, and the next one is the one at the place told. -/
theorem course_path {l : List ByteArray} {s : ByteArray} (h : litR l s = true) : (courseR l s).1.Nodup ∧ (∀ i, i < (courseR l s).1.length → (courseR l s).1.getD i ByteArray.empty = tkN (tickS l) i s) ∧ 0 ≤ (courseR l s).2 ∧ (courseR l s).2.toNat < (courseR l s).1.length ∧ tkN (tickS l) (courseR l s).1.length s = tkN (tickS l) (courseR l s).2.toNat s :=
  courseP_path (tickS l) s 1100 [] s _ _ (by simp) (fun i hi => absurd hi (by simp)) rfl (courseR_eq h).1
/-- The place of a state behind so many ticks. -/
def posN (n d t : Nat) : Nat := if t < n then t else d + (t - d) % (n - d)
theorem posN_lt {n d t : Nat} (h : d < n) : posN n d t < n := by
  unfold posN
  split
  · assumption
  · have := Nat.mod_lt (t - d) (show 0 < n - d by omega)
    omega
theorem course_at {l : List ByteArray} {s : ByteArray} (h : litR l s = true) (t : Nat) : (courseR l s).1.getD (posN (courseR l s).1.length (courseR l s).2.toNat t) ByteArray.empty = tkN (tickS l) t s := by
  obtain ⟨_, h1, _, h3, h4⟩ := course_path h
  rw [h1 _ (posN_lt h3)]
  unfold posN
  split
  · rfl
  · exact (tkN_mod _ _ _ _ h3 h4 t (by omega)).symm
theorem lit_tkN {l : List ByteArray} {s : ByteArray} (h : litR l s = true) : ∀ n, litR l (tkN (tickS l) n s) = true
  | 0 => h
  | n + 1 => lit_tick (lit_tkN h n)
theorem ticksR_tk {l : List ByteArray} {s : ByteArray} {t : Nat} (h : litR l s = true) (ht : t ≤ 1000000) : ticksR l s (t : Int) = (tkN (tickS l) t s, true) := by
  have hi : inB (t : Int) 0 1000000 = true := inB_of (by omega) (by omega)
  obtain ⟨h1, h2⟩ := ticksR_at h hi
  obtain ⟨_, c1, c2, c3, _, _⟩ := courseR_eq h
  have e := course_at h t
  refine Prod.ext ?_ h2
  generalize courseR l s = R at h1 c1 c2 c3 e
  obtain ⟨R, d⟩ := R
  simp only at h1 c1 c2 c3 e
  obtain ⟨d, rfl⟩ : ∃ m : Nat, d = (m : Int) := ⟨d.toNat, by omega⟩
  rw [Int.toNat_natCast] at e
  unfold spec_laAt.f at h1
  have w1 : wrap64 ((R.length : Int) - (d : Int)) = ((R.length - d : Nat) : Int) := by rw [w64 (by omega) (by omega)]; omega
  by_cases c : t < R.length
  · rw [if_pos (by omega), if_pos (by omega)] at h1
    rw [posN, if_pos c] at e
    rw [← e, ← Option.some.inj h1]
    simp [rdOf]
  · have w2 : wrap64 ((t : Int) - (d : Int)) = ((t - d : Nat) : Int) := by rw [w64 (by omega) (by omega)]; omega
    have hm := Nat.mod_lt (t - d) (show 0 < R.length - d by omega)
    have w3 : Int.tmod ((t - d : Nat) : Int) ((R.length - d : Nat) : Int) = (((t - d) % (R.length - d) : Nat) : Int) := rfl
    rw [if_neg (by omega), w1, w2, if_neg (by omega), w3, w64 (by omega) (by omega), if_pos (by omega), if_pos (by omega)] at h1
    rw [posN, if_neg c] at e
    rw [← e, ← Option.some.inj h1]
    rw [show (d : Int) + (((t - d) % (R.length - d) : Nat) : Int) = ((d + (t - d) % (R.length - d) : Nat) : Int) by omega]
    unfold rdOf
    rw [Int.toNat_natCast]

/-! ### after impl_TimesChanging -/
def chgB (l : List ByteArray) (i : Nat) (s : ByteArray) : Bool := meetsL (l.getD i ByteArray.empty).data.toList s.data.toList
/-- How often a lamp changes in so many ticks. -/
def cntN (l : List ByteArray) (s : ByteArray) (i : Nat) : Nat → Nat
  | 0 => 0
  | n + 1 => cntN l s i n + if chgB l i (tkN (tickS l) n s) = true then 1 else 0
theorem cntN_le (l : List ByteArray) (s : ByteArray) (i : Nat) : ∀ n, cntN l s i n ≤ n
  | 0 => Nat.le_refl _
  | n + 1 => by have := cntN_le l s i n; rw [cntN]; split <;> omega
theorem succ_div_ (q m : Nat) (hm : 0 < m) : (q + 1) / m = q / m + if (q + 1) % m = 0 then 1 else 0 := by
  have h1 := Nat.div_add_mod q m
  have h2 := Nat.mod_lt q hm
  rcases Nat.lt_or_ge (q % m + 1) m with c | c
  · have e : q + 1 = m * (q / m) + (q % m + 1) := by omega
    have e1 : (q + 1) / m = q / m := by rw [e, Nat.mul_add_div hm, Nat.div_eq_of_lt c]; rfl
    have e2 : (q + 1) % m = q % m + 1 := by rw [e, Nat.mul_add_mod, Nat.mod_eq_of_lt c]
    rw [e1, e2, if_neg (by omega)]; rfl
  · have e : q + 1 = m * (q / m + 1) := by rw [Nat.mul_succ]; omega
    have e1 : (q + 1) / m = q / m + 1 := by rw [e, Nat.mul_div_cancel_left _ hm]
    have e2 : (q + 1) % m = 0 := by rw [e, Nat.mul_mod_right]
    rw [e1, e2, if_pos rfl]
/-- The same in natural numbers. -/
def timesN (n d t p : Nat) : Nat := if p < t then (if d ≤ p then (t - 1 - p) / (n - d) + 1 else 1) else 0
theorem timesV_N {n d t p : Nat} (hd : d < n) (hn : n ≤ 1024) (hp : p < n) (ht : t ≤ 1000000) : timesV n (d : Int) (t : Int) (p : Int) = (timesN n d t p : Int) := by
  unfold timesV timesN
  by_cases c : p < t
  · rw [if_pos c, if_pos (by omega)]
    by_cases c2 : d ≤ p
    · have e1 : wrap64 ((t : Int) - 1) = (t : Int) - 1 := w64 (by omega) (by omega)
      have e2 : wrap64 ((t : Int) - 1 - p) = ((t - 1 - p : Nat) : Int) := by rw [w64 (by omega) (by omega)]; omega
      have e3 : wrap64 ((n : Int) - d) = ((n - d : Nat) : Int) := by rw [w64 (by omega) (by omega)]; omega
      have e4 : Int.tdiv ((t - 1 - p : Nat) : Int) ((n - d : Nat) : Int) = (((t - 1 - p) / (n - d) : Nat) : Int) := rfl
      have h5 := Nat.div_le_self (t - 1 - p) (n - d)
      rw [if_pos c2, if_pos (by omega), e1, e2, e3, e4]
      generalize (t - 1 - p) / (n - d) = q at h5 ⊢
      rw [w64 (a := (q : Int)) (by omega) (by omega), w64 (by omega) (by omega)]
      omega
    · rw [if_neg c2, if_neg (by omega)]; rfl
  · rw [if_neg c, if_neg (by omega)]; rfl
theorem timesN_le {n d t p : Nat} : timesN n d t p ≤ t := by
  unfold timesN
  split
  · split
    · have := Nat.div_le_self (t - 1 - p) (n - d); omega
    · omega
  · omega
theorem timesN_step {n d t p : Nat} (hd : d < n) (hp : p < n) : timesN n d (t + 1) p = timesN n d t p + if p = posN n d t then 1 else 0 := by
  have hm : 0 < n - d := by omega
  have hmod := Nat.mod_lt (t - d) hm
  unfold timesN posN
  by_cases c2 : d ≤ p
  · rcases Nat.lt_trichotomy p t with c | c | c
    · rw [if_pos (by omega), if_pos c2, if_pos c, if_pos c2, show t + 1 - 1 - p = (t - 1 - p) + 1 by omega, succ_div_ _ _ hm, show t - 1 - p + 1 = t - p by omega]
      have key : ((t - p) % (n - d) = 0) ↔ (p = if t < n then t else d + (t - d) % (n - d)) := by
        by_cases c3 : t < n
        · rw [if_pos c3, Nat.mod_eq_of_lt (by omega)]; omega
        · rw [if_neg c3]
          have e1 : t - d = (t - p) + (p - d) := by omega
          constructor
          · intro h
            rw [e1, Nat.add_mod, h, Nat.zero_add, Nat.mod_mod, Nat.mod_eq_of_lt (by omega)]; omega
          · intro h
            have e2 : (t - d) % (n - d) = p - d := by omega
            have h3 := Nat.div_add_mod (t - d) (n - d)
            have e4 : t - p = (n - d) * ((t - d) / (n - d)) := by omega
            rw [e4, Nat.mul_mod_right]
      by_cases c4 : (t - p) % (n - d) = 0
      · rw [if_pos c4, if_pos (key.1 c4)]
      · rw [if_neg c4, if_neg (fun h => c4 (key.2 h))]
    · subst c
      rw [if_pos (by omega), if_pos c2, if_neg (by omega), if_pos hp, if_pos rfl, show p + 1 - 1 - p = 0 by omega, Nat.zero_div]
    · rw [if_neg (by omega), if_neg (by omega), if_neg]
      split <;> omega
  · by_cases c : p < t
    · rw [if_pos (by omega), if_neg c2, if_pos c, if_neg c2, if_neg]
      split <;> omega
    · by_cases c3 : p = t
      · subst c3
        rw [if_pos (by omega), if_neg c2, if_neg (by omega), if_pos hp, if_pos rfl]
      · rw [if_neg (by omega), if_neg (by omega), if_neg]
        split <;> omega
/-- What the states of a course from a place on bring for a lamp. -/
def sumP (l : List ByteArray) (i n d t : Nat) : List ByteArray → Nat → Nat
  | [], _ => 0
  | x :: r, p => (if chgB l i x = true then timesN n d t p else 0) + sumP l i n d t r (p + 1)
theorem sumP_zero (l : List ByteArray) (i n d : Nat) : ∀ (R : List ByteArray) (p : Nat), sumP l i n d 0 R p = 0
  | [], _ => rfl
  | x :: r, p => by rw [sumP, sumP_zero l i n d r (p + 1)]; simp [timesN]
theorem sumP_step (l : List ByteArray) (i n d t : Nat) (hd : d < n) : ∀ (R : List ByteArray) (p : Nat), p + R.length = n →
    sumP l i n d (t + 1) R p = sumP l i n d t R p + if p ≤ posN n d t ∧ chgB l i (R.getD (posN n d t - p) ByteArray.empty) = true then 1 else 0
  | [], p, h => by
    have := @posN_lt n d t hd
    simp only [List.length_nil] at h
    rw [if_neg (by omega)]; rfl
  | x :: r, p, h => by
    rw [List.length_cons] at h
    have ih := sumP_step l i n d t hd r (p + 1) (by omega)
    rw [sumP, sumP, ih, timesN_step hd (by omega)]
    by_cases c : p = posN n d t
    · rw [if_pos c, ← c, Nat.sub_self, if_neg (show ¬ (p + 1 ≤ p ∧ chgB l i (r.getD (p - (p + 1)) ByteArray.empty) = true) by omega)]
      simp only [List.getD_cons_zero, Nat.le_refl, true_and]
      split <;> omega
    · rw [if_neg c]
      by_cases c1 : p + 1 ≤ posN n d t
      · have e : posN n d t - p = (posN n d t - (p + 1)) + 1 := by omega
        rw [e, List.getD_cons_succ]
        simp only [c1, show p ≤ posN n d t by omega, true_and]
        split <;> split <;> omega
      · simp only [c1, show ¬ p ≤ posN n d t by omega, false_and, if_false]
        split <;> omega
theorem sumP_cnt {l : List ByteArray} {s : ByteArray} (h : litR l s = true) (i : Nat) : ∀ t, sumP l i (courseR l s).1.length (courseR l s).2.toNat t (courseR l s).1 0 = cntN l s i t
  | 0 => sumP_zero ..
  | t + 1 => by
    have h3 := (course_path h).2.2.2.1
    rw [sumP_step l i _ _ t h3 _ 0 (by omega), sumP_cnt h i t, cntN, Nat.sub_zero, course_at h t]
    simp
theorem updK_rd (l : List ByteArray) (t : ByteArray) (v : Int) (out : List Int) (i : Nat) (hi : i < out.length) : ∀ k, rd (updK l t v out k) (i : Int) = if i < k ∧ chgB l i t = true then wrap64 (rd out (i : Int) + v) else rd out (i : Int)
  | 0 => by rw [updK, if_neg (by omega)]
  | k + 1 => by
    have ih := updK_rd l t v out i hi k
    have hl := updK_length l t v out k
    rw [updK]
    by_cases c : k = i
    · subst c
      have e : chgB l k t = meetsL (l.getD k ByteArray.empty).data.toList t.data.toList := rfl
      rw [if_neg (by omega)] at ih
      by_cases c1 : meetsL (l.getD k ByteArray.empty).data.toList t.data.toList = true
      · rw [if_pos c1, if_pos ⟨by omega, e.trans c1⟩, ih]
        simp [rd, hl, hi]
      · rw [if_neg c1, if_neg (fun h => c1 (e.symm.trans h.2)), ih]
    · have e1 : (i < k + 1 ∧ chgB l i t = true) ↔ (i < k ∧ chgB l i t = true) := by constructor <;> (intro h; exact ⟨by omega, h.2⟩)
      simp only [e1]
      split
      · rw [← ih]
        simp [rd, List.getElem?_set_ne (show k ≠ i from c)]
      · exact ih
theorem runL_rd (l : List ByteArray) (n d t i : Nat) (hd : d < n) (hn : n ≤ 1024) (ht : t ≤ 1000000) (hi : i < l.length) : ∀ (R : List ByteArray) (p : Nat) (out : List Int), p + R.length = n → out.length = l.length → 0 ≤ rd out (i : Int) → rd out (i : Int) + R.length * 1000000 ≤ 4000000000 →
    rd (runL l n (d : Int) (t : Int) R p out) (i : Int) = rd out (i : Int) + (sumP l i n d t R p : Int)
  | [], p, out, _, _, _, _ => by rw [runL, sumP]; omega
  | x :: r, p, out, hp, ho, h0, h1 => by
    rw [List.length_cons] at hp h1
    have hT := @timesN_le n d t p
    have hv : timesV n (d : Int) (t : Int) (p : Int) = (timesN n d t p : Int) := timesV_N hd hn (by omega) ht
    have hu := updK_rd l x (timesV n (d : Int) (t : Int) (p : Int)) out i (by omega) l.length
    rw [hv] at hu
    rw [runL, sumP, hv]
    have hq : rd (updK l x (timesN n d t p : Int) out l.length) (i : Int) = rd out (i : Int) + ((if chgB l i x = true then timesN n d t p else 0 : Nat) : Int) := by
      rw [hu]
      by_cases c : chgB l i x = true
      · rw [if_pos ⟨hi, c⟩, if_pos c, w64 (by omega) (by omega)]
      · rw [if_neg (fun h => c h.2), if_neg c]; omega
    have hle : (if chgB l i x = true then timesN n d t p else 0 : Nat) ≤ t := by split <;> omega
    rw [runL_rd l n d t i hd hn ht hi r (p + 1) _ (by omega) (by rw [updK_length]; exact ho) (by rw [hq]; omega) (by rw [hq]; omega), hq]
    omega
/-- How often lamps change in so many ticks. -/
theorem timesR_cnt {l : List ByteArray} {s : ByteArray} {t : Nat} (h : litR l s = true) (ht : t ≤ 1000000) : (timesR l s (t : Int)).2 = true ∧ (timesR l s (t : Int)).1.length = l.length ∧ ∀ i, i < l.length → rd (timesR l s (t : Int)).1 (i : Int) = (cntN l s i t : Int) := by
  have hi : inB (t : Int) 0 1000000 = true := inB_of (by omega) (by omega)
  obtain ⟨_, c1, c2, c3, _, _⟩ := courseR_eq h
  have hl := (lit_facts h).2.1
  unfold timesR
  rw [if_pos ⟨h, hi⟩]
  refine ⟨rfl, by simp only [runL_length]; simp [hl], fun i hil => ?_⟩
  have hs := sumP_cnt h i t
  generalize courseR l s = R at c1 c2 c3 hs
  obtain ⟨R, d⟩ := R
  simp only at c1 c2 c3 hs
  obtain ⟨d, rfl⟩ : ∃ m : Nat, d = (m : Int) := ⟨d.toNat, by omega⟩
  rw [Int.toNat_natCast] at hs
  have h0 : rd (List.replicate s.size (0 : Int)) (i : Int) = 0 := by
    simp only [rd, Int.toNat_natCast, List.getD]
    rw [List.getElem?_replicate]
    split <;> rfl
  simp only
  rw [runL_rd l R.length d t i (by omega) c1 ht hil R 0 _ (by omega) (by simp [hl]) (by rw [h0]; omega) (by rw [h0]; omega), h0, hs]
  omega
theorem lit_bt {l : List ByteArray} {s : ByteArray} (h : litR l s = true) (i : Nat) (hi : i < l.length) : bt s (i : Int) = 48 ∨ bt s (i : Int) = 49 := by
  obtain ⟨_, h1, _, _, _, h4⟩ := lit_facts h
  have hz := Lib.size_eq s
  have hit : i < s.data.toList.length := by omega
  rw [bt_nat s i hit]
  have hb := List.all_eq_true.1 h4 _ (List.getElem_mem hit)
  simp only [isBit, Bool.or_eq_true, beq_iff_eq] at hb
  rcases hb with h | h <;> rw [h]
  · exact .inl rfl
  · exact .inr rfl
theorem chg_bt {l : List ByteArray} {s : ByteArray} (h : litR l s = true) (i : Nat) (hi : i < l.length) : (bt (tickS l s) (i : Int) = bt s (i : Int)) ↔ chgB l i s = false := flip_eq h i hi
/-- A lamp that changes an odd number of times is not as it was. -/
theorem cntN_odd {l : List ByteArray} {s : ByteArray} (h : litR l s = true) (i : Nat) (hi : i < l.length) : ∀ n, (cntN l s i n % 2 = 1) ↔ ¬ (bt s (i : Int) = bt (tkN (tickS l) n s) (i : Int))
  | 0 => by simp [cntN, tkN]
  | n + 1 => by
    have ih := cntN_odd h i hi n
    have hn := lit_tkN h n
    have h1 := chg_bt hn i hi
    have b0 := lit_bt h i hi
    have b1 := lit_bt hn i hi
    have b2 := lit_bt (lit_tick hn) i hi
    rw [cntN]
    show _ ↔ ¬ bt s (i : Int) = bt (tickS l (tkN (tickS l) n s)) (i : Int)
    cases hc : chgB l i (tkN (tickS l) n s)
    · have := h1.2 hc
      rw [this]
      simpa using ih
    · have : ¬ bt (tickS l (tkN (tickS l) n s)) (i : Int) = bt (tkN (tickS l) n s) (i : Int) := fun e => by rw [h1.1 e] at hc; cases hc
      simp only [if_true]
      omega

/-! ### after spec_CycleOfLamps -/
theorem getD_append_ {α : Type} (a b : List α) (e : α) (j : Nat) : (a ++ b).getD j e = if j < a.length then a.getD j e else b.getD (j - a.length) e := by
  by_cases c : j < a.length
  · rw [if_pos c, List.getD, List.getD, List.getElem?_append_left c]
  · rw [if_neg c, List.getD, List.getD, List.getElem?_append_right (by omega)]
theorem getD_drop_ {α : Type} (a : List α) (e : α) (i j : Nat) : (a.drop i).getD j e = a.getD (i + j) e := by
  rw [List.getD, List.getD, List.getElem?_drop]
theorem getD_take_ {α : Type} (a : List α) (e : α) (i j : Nat) (h : j < i) : (a.take i).getD j e = a.getD j e := by
  rw [List.getD, List.getD, List.getElem?_take_of_lt h]
theorem cyS_mem (C : List ByteArray) (x : ByteArray) : x ∈ cyS C ↔ x ∈ C := by
  unfold cyS
  constructor
  · intro h
    rcases List.mem_append.1 h with h | h
    · exact List.mem_of_mem_drop h
    · exact List.mem_of_mem_take h
  · intro h
    rw [← List.take_append_drop (cyI C) C] at h
    rcases List.mem_append.1 h with h | h
    · exact List.mem_append.2 (.inr h)
    · exact List.mem_append.2 (.inl h)
theorem cyS_getD (C : List ByteArray) (j : Nat) (hj : j < C.length) : (cyS C).getD j ByteArray.empty = C.getD ((cyI C + j) % C.length) ByteArray.empty := by
  have hi := cyI_lt (show 0 < C.length by omega)
  unfold cyS
  rw [getD_append_, List.length_drop]
  by_cases c : j < C.length - cyI C
  · rw [if_pos c, getD_drop_, Nat.mod_eq_of_lt (by omega)]
  · rw [if_neg c, getD_take_ _ _ _ _ (by omega)]
    rw [show cyI C + j = (j - (C.length - cyI C)) + C.length by omega, Nat.add_mod_right, Nat.mod_eq_of_lt (by omega)]
theorem least_ex (C : List ByteArray) (h : 0 < C.length) : ∀ i, i < C.length → ∃ m, leastOk C (i + 1) m
  | 0, _ => ⟨0, least_first C h⟩
  | i + 1, hi => by
    obtain ⟨m, hm⟩ := least_ex C h i (by omega)
    by_cases c : (C.getD (i + 1) ByteArray.empty).data.toList < (C.getD m ByteArray.empty).data.toList
    · exact ⟨_, least_new hi (by omega) hm c⟩
    · exact ⟨_, least_old hi (by omega) hm c⟩
theorem cyS_least (C : List ByteArray) (h : 0 < C.length) (j : Nat) (hj : j < C.length) : ¬ ((cyS C).getD j ByteArray.empty).data.toList < ((cyS C).getD 0 ByteArray.empty).data.toList := by
  obtain ⟨m, hm⟩ := least_ex C h (C.length - 1) (by omega)
  rw [show C.length - 1 + 1 = C.length by omega] at hm
  have e := least_end h hm
  have hi := cyI_lt h
  rw [cyS_getD C j hj, cyS_getD C 0 h, Nat.add_zero, Nat.mod_eq_of_lt hi, ← e]
  exact (hm.2.2 h).2.2.2 _ (Nat.mod_lt _ h)
/-- The cycle that lamps come to. -/
def cycC (l : List ByteArray) (s : ByteArray) : List ByteArray := (courseR l s).1.drop (courseR l s).2.toNat
theorem cycC_at {l : List ByteArray} {s : ByteArray} (h : litR l s = true) (k : Nat) (hk : k < (cycC l s).length) : (cycC l s).getD k ByteArray.empty = tkN (tickS l) ((courseR l s).2.toNat + k) s := by
  obtain ⟨_, h2, _, _, _⟩ := course_path h
  unfold cycC at hk ⊢
  rw [List.length_drop] at hk
  rw [getD_drop_, h2 _ (by omega)]
theorem cycC_len {l : List ByteArray} {s : ByteArray} (h : litR l s = true) : (cycC l s).length = (courseR l s).1.length - (courseR l s).2.toNat ∧ 0 < (cycC l s).length := by
  obtain ⟨_, _, _, h4, _⟩ := course_path h
  unfold cycC
  rw [List.length_drop]
  omega
theorem cycC_next {l : List ByteArray} {s : ByteArray} (h : litR l s = true) (k : Nat) (hk : k < (cycC l s).length) : tickS l ((cycC l s).getD k ByteArray.empty) = (cycC l s).getD ((k + 1) % (cycC l s).length) ByteArray.empty := by
  obtain ⟨_, _, _, h4, h5⟩ := course_path h
  obtain ⟨h6, h7⟩ := cycC_len h
  rw [cycC_at h k hk]
  show tkN (tickS l) ((courseR l s).2.toNat + k + 1) s = _
  rcases Nat.lt_or_ge (k + 1) (cycC l s).length with c | c
  · rw [Nat.mod_eq_of_lt c, cycC_at h _ c, Nat.add_assoc]
  · have e : k + 1 = (cycC l s).length := by omega
    rw [e, Nat.mod_self, cycC_at h 0 h7, show (courseR l s).2.toNat + k + 1 = (courseR l s).1.length by omega, h5]
    rfl
theorem cyS_next {l : List ByteArray} {s : ByteArray} (h : litR l s = true) (j : Nat) (hj : j < (cycC l s).length) : tickS l ((cyS (cycC l s)).getD j ByteArray.empty) = (cyS (cycC l s)).getD ((j + 1) % (cycC l s).length) ByteArray.empty := by
  have h7 := (cycC_len h).2
  rw [cyS_getD _ j hj, cyS_getD _ _ (Nat.mod_lt _ h7), cycC_next h _ (Nat.mod_lt _ h7)]
  congr 1
  rw [Nat.mod_add_mod, Nat.add_mod_mod, Nat.add_assoc]
theorem cycC_lit {l : List ByteArray} {s : ByteArray} (h : litR l s = true) : ∀ x ∈ cycC l s, litR l x = true := fun x hx => (courseR_eq h).2.2.2.2.1 x (List.mem_of_mem_drop hx)
theorem cycC_in {l : List ByteArray} {s : ByteArray} (h : litR l s = true) : tkN (tickS l) (courseR l s).2.toNat s ∈ cycC l s := by
  have h7 := (cycC_len h).2
  have := cycC_at h 0 h7
  rw [Nat.add_zero] at this
  rw [← this, List.getD, List.getElem?_eq_getElem h7]
  exact List.getElem_mem h7
theorem cycC_out {l : List ByteArray} {s : ByteArray} (h : litR l s = true) (n : Nat) (hn : n < (courseR l s).2.toNat) : ¬ tkN (tickS l) n s ∈ cycC l s := by
  intro hm
  obtain ⟨h1, h2, _, h4, _⟩ := course_path h
  obtain ⟨k, hk, e⟩ := List.getElem_of_mem hm
  have e1 := cycC_at h k hk
  have hlen := (cycC_len h).1
  rw [List.getD, List.getElem?_eq_getElem hk] at e1
  have e2 : (courseR l s).1.getD n ByteArray.empty = (courseR l s).1.getD ((courseR l s).2.toNat + k) ByteArray.empty := by
    rw [h2 n (by omega), h2 _ (by omega), ← e1]
    exact e.symm
  have hn' : n < (courseR l s).1.length := by omega
  have hk' : (courseR l s).2.toNat + k < (courseR l s).1.length := by omega
  rw [List.getD, List.getD, List.getElem?_eq_getElem hn', List.getElem?_eq_getElem hk'] at e2
  exact (List.pairwise_iff_getElem.1 h1) n _ hn' hk' (by omega) (by simpa using e2)

/-! ### after spec_FirstTick -/
theorem firstR_true {l : List ByteArray} {u : ByteArray} {i : Int} (h : (firstR l u i).2 = true) : litR l u = true ∧ ∃ p j : Nat, i = (j : Int) ∧ j < l.length ∧ (firstR l u i).1 = (p : Int) ∧ p ≤ 1024 ∧ bt (tkN (tickS l) p u) i = 49 ∧ (0 < p → bt (tkN (tickS l) (p - 1) u) i = 48) := by
  unfold firstR at h ⊢
  by_cases c : litR l u = true ∧ inB i 0 (wrap64 ((u.size : Int) - 1)) = true
  · rw [if_pos c] at h ⊢
    obtain ⟨hl, hi⟩ := c
    obtain ⟨_, h1, _, h4, _, _⟩ := lit_facts hl
    have h5 := inB_lo hi
    have h6 := inB_hi hi
    rw [w64 (by omega) (by omega)] at h6
    obtain ⟨j, rfl⟩ : ∃ j : Nat, i = j := ⟨i.toNat, by omega⟩
    have hj : j < l.length := by omega
    obtain ⟨_, c1, _, _, _, _⟩ := courseR_eq hl
    obtain ⟨_, p2, _, _, _⟩ := course_path hl
    unfold hitR idxI at h ⊢
    cases ha : (courseR l u).1.any (fun x => bt x (j : Int) == 49)
    · rw [ha] at h; simp at h
    · clear h
      have hx := List.any_eq_true.1 ha
      have hlt := List.findIdx_lt_length.2 hx
      refine ⟨hl, (courseR l u).1.findIdx (fun x => bt x (j : Int) == 49), j, rfl, hj, ?_, by omega, ?_, ?_⟩
      · rw [if_neg (by simp)]; rfl
      · have e := List.findIdx_getElem (w := hlt)
        rw [← p2 _ hlt, List.getD, List.getElem?_eq_getElem hlt]
        simpa using e
      · intro hp
        have hlt' : (courseR l u).1.findIdx (fun x => bt x (j : Int) == 49) - 1 < (courseR l u).1.length := by omega
        have e := List.not_of_lt_findIdx (p := fun x => bt x (j : Int) == 49) (xs := (courseR l u).1) (i := (courseR l u).1.findIdx (fun x => bt x (j : Int) == 49) - 1) (by omega)
        have e2 : (courseR l u).1.getD ((courseR l u).1.findIdx (fun x => bt x (j : Int) == 49) - 1) ByteArray.empty = (courseR l u).1[(courseR l u).1.findIdx (fun x => bt x (j : Int) == 49) - 1]'hlt' := by rw [List.getD, List.getElem?_eq_getElem hlt']; rfl
        have b := lit_bt (lit_tkN hl ((courseR l u).1.findIdx (fun x => bt x (j : Int) == 49) - 1)) j hj
        rw [← p2 _ hlt', e2] at b ⊢
        have e3 : ¬ bt ((courseR l u).1[(courseR l u).1.findIdx (fun x => bt x (j : Int) == 49) - 1]'hlt') (j : Int) = 49 := by simpa using e
        rcases b with b | b
        · exact b
        · exact absurd b e3
  · rw [if_neg c] at h; cases h

end Go.Proofs.YtiiahdjjngdgoaaDoor.PLTick
