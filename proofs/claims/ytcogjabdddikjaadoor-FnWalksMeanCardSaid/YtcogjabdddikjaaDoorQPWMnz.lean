/- What the printed functions answer, function by function: plain statements, without memory. (wip/after) -/
import Derived.Test.YtcogjabdddikjaaDoorQPWMnx
import Derived.Test.YtcogjabdddikjaaDoorQEv
import Derived.Test.YtcogjabdddikjaaDoorQState
import Derived.Test.YtcogjabdddikjaaDoorQGray
namespace Go.Proofs.YtcogjabdddikjaaDoor.PWMn
open Go.RowKit Go.Proofs.YtcogjabdddikjaaDoorW.PrintWords Go.Proofs.YtcogjabdddikjaaDoorW.PrintLast Go.Proofs.YtcogjabdddikjaaDoorW.PrintMore
set_option linter.unusedVariables false
set_option linter.unusedSimpArgs false
/-! ### after spec_l1Cur_next -/
/-- What is drawn from: bytes, not too many. -/
def okL (l : List Int) : Prop := l.length ≤ 1048576 ∧ ∀ a ∈ l, 0 ≤ a ∧ a ≤ 255
theorem rd_ok {l : List Int} (h : okL l) (i : Int) (h0 : 0 ≤ i) (h1 : i < (l.length : Int)) : 0 ≤ rd l i ∧ rd l i ≤ 255 := by
  have hn : i.toNat < l.length := by omega
  have e : rd l i = l[i.toNat] := by simp [rd, hn]
  rw [e]; exact h.2 _ (List.getElem_mem hn)
theorem and_255 (x : Int) : 0 ≤ wrap64 (Go.bits .and .u64 x 255) ∧ wrap64 (Go.bits .and .u64 x 255) ≤ 255 := by
  have e : Go.bits .and .u64 x 255 = IntKind.u64.wrap (((BitVec.ofInt IntKind.u64.bits x).toNat &&& 255 : Nat) : Int) := by
    simp only [Go.bits, BitVec.toNat_and]
    rfl
  have h : (BitVec.ofInt IntKind.u64.bits x).toNat &&& 255 ≤ 255 := Nat.and_le_right
  rw [e]
  generalize (BitVec.ofInt IntKind.u64.bits x).toNat &&& 255 = n at h
  have e2 : IntKind.u64.wrap (n : Int) = (n : Int) := by
    simp only [IntKind.wrap, IntKind.bits, IntKind.signed]
    simp
    omega
  rw [e2, w64 (by omega) (by omega)]
  omega
theorem next_ok {l : List Int} (h : okL l) (p s : Int) (h0 : 0 ≤ p) (h1 : p ≤ 4611686018427387904) : ∃ b s', spec_l1Cur_next.f l p s = some (b, p + 1, s') ∧ 0 ≤ b ∧ b ≤ 255 := by
  have ew : wrap64 (p + 1) = p + 1 := w64 (by omega) (by omega)
  unfold spec_l1Cur_next.f
  rw [ew]
  by_cases c : p < (l.length : Int)
  · obtain ⟨r0, r1⟩ := rd_ok h p h0 c
    have er : wrap64 (rd l p) = rd l p := w64 (by omega) (by omega)
    rw [if_pos c, if_pos h0, er]
    split
    · exact ⟨_, _, rfl, r0, r1⟩
    · exact ⟨_, _, rfl, (and_255 _).1, (and_255 _).2⟩
  · rw [if_neg c]
    split
    · exact ⟨_, _, rfl, by omega, by omega⟩
    · exact ⟨_, _, rfl, (and_255 _).1, (and_255 _).2⟩

/-! ### after spec_l1Cur_pick -/
theorem pick_ok {l : List Int} (h : okL l) (p s n : Int) (h0 : 0 ≤ p) (h1 : p ≤ 2305843009213693952) : ∃ x p' s', spec_l1Cur_pick.f l p s n = some (x, p', s') ∧ 0 ≤ x ∧ (x < n ∨ x = 0) ∧ p ≤ p' ∧ p' ≤ p + 2 := by
  unfold spec_l1Cur_pick.f
  by_cases c : n ≤ 1
  · rw [if_pos c]; exact ⟨0, p, s, rfl, by omega, .inr rfl, by omega, by omega⟩
  · obtain ⟨b, s1, e1, b0, b1⟩ := next_ok h p s h0 (by omega)
    rw [if_neg c, e1, Option.bind_some]
    by_cases c2 : n > 200
    · obtain ⟨b2, s2, e2, b3, b4⟩ := next_ok h (p + 1) s1 (by omega) (by omega)
      rw [if_pos c2]
      dsimp only
      rw [e2, Option.bind_some, if_neg (by omega)]
      dsimp only
      rw [w64 (a := b * 256) (by omega) (by omega), w64 (by omega) (by omega)]
      exact ⟨_, _, _, rfl, Int.tmod_nonneg _ (by omega), .inl (Int.tmod_lt_of_pos _ (by omega)), by omega, by omega⟩
    · rw [if_neg c2, if_neg (by omega)]
      exact ⟨_, _, _, rfl, Int.tmod_nonneg _ b0, .inl (Int.tmod_lt_of_pos _ (by omega)), by dsimp only; omega, by dsimp only; omega⟩

/-! ### after spec_l1Cur_one -/
theorem one_ok {l : List Int} (h : okL l) (p s n : Int) (h0 : 0 ≤ p) (h1 : p ≤ 2305843009213693952) : ∃ x p' s', spec_l1Cur_one.f l p s n = some (x, p', s') ∧ p ≤ p' ∧ p' ≤ p + 2 := by
  obtain ⟨x, p', s', e, _, _, h2, h3⟩ := pick_ok h p s n h0 h1
  exact ⟨_, p', s', by rw [spec_l1Cur_one.f, e, Option.bind_some], h2, h3⟩

/-! ### after spec_l1Cur_of -/
/-! ### after spec_l1Cur_among -/
theorem among_ok {l : List Int} (h : okL l) (p s : Int) (L : List Int) (hn : L ≠ []) (h0 : 0 ≤ p) (h1 : p ≤ 2305843009213693952) : ∃ t p' s', spec_l1Cur_among.f l p s L = some (t, p', s') ∧ p ≤ p' ∧ p' ≤ p + 2 := by
  obtain ⟨x, p', s', e, x0, x1, h2, h3⟩ := pick_ok h p s (L.length : Int) h0 h1
  have hp := List.length_pos_iff.2 hn
  refine ⟨rd L x, p', s', ?_, h2, h3⟩
  rw [spec_l1Cur_among.f, e, Option.bind_some, if_pos x0, if_pos (by dsimp only; omega)]

/-! ### after spec_riGood -/
theorem riGood_ev (s : ByteArray) : Ev (fun k => spec_riGood.f k s) (stateB s) := by
  have e1 : ∀ k, spec_riGood.f k s = if inB (s.size : Int) 1 20 = true then spec_riGood.l0 k s 0 else some false := by
    intro k
    simp only [spec_riGood.f, spec_l1In.f, inB_ite, Option.bind_some]
  refine Ev.congr e1 ?_
  unfold stateB
  cases h : inB (s.size : Int) 1 20
  · exact Ev.now _
  · have hs : s.size ≤ 20 := by have := inB_hi h; omega
    have hz : s.size = s.data.toList.length := Lib.size_eq s
    have := any_ev (fun k i => spec_riGood.l0 k s i) s.data.toList (fun b => !isBit b) false true (fun i hi => ⟨1, fun k hk => by
      obtain ⟨k, rfl⟩ : ∃ m, k = m + 1 := ⟨k - 1, by omega⟩
      have ew : wrap64 ((i : Int) + 1) = ((i + 1 : Nat) : Int) := by rw [w64 (by omega) (by omega)]; omega
      have eb := bt_nat s i hi
      rw [spec_riGood.l0, if_pos (by omega), if_pos (by omega), eb, ew]
      have q8 := byte_toInt s.data.toList[i] 48 (by omega)
      have q9 := byte_toInt s.data.toList[i] 49 (by omega)
      simp only [Int.cast_ofNat_Int] at q8 q9
      simp only [q8, q9, isBit]
      generalize s.data.toList[i] = b
      by_cases c8 : b = 48
      · simp [c8]
      · by_cases c9 : b = 49
        · simp [c9]
        · simp [c8, c9]⟩) (fun k => by rw [spec_riGood.l0, if_neg (by omega)])
    have ha : (!(s.data.toList.any fun b => !isBit b)) = s.data.toList.all isBit := by simp [List.all_eq_not_any_not]
    simp only [Bool.true_and, if_true]
    rw [← ha]
    cases hq : s.data.toList.any fun b => !isBit b <;> simpa [hq] using this

/-! ### after impl_IsState -/
theorem isState_eq (s : ByteArray) (h : s.size ≤ 9223372036854775807) : impl_IsState.f s = some (stateB s) := by
  have ht : strings_Trim.f s (⟨#[48, 49]⟩ : ByteArray) = some ⟨(Lib.trimS s.data.toList [48, 49]).toArray⟩ := by
    unfold strings_Trim.f
    rw [if_pos ⟨h, by decide, by decide⟩]
  simp only [impl_IsState.f, impl_in.f, inB_ite, Option.bind_some, ht, trimS_beq, isBit_contains, stateB]
  cases inB (s.size : Int) 1 20 <;> simp

/-! ### after impl_canMove -/
theorem canMove_eq (s : ByteArray) (a : Int) (h : s.size ≤ 1048576) (hst : s.data.toList.all isBit = true) : impl_canMove.f s a = some (canB s a) := by
  have hz : s.size = s.data.toList.length := Lib.size_eq s
  unfold canB
  by_cases h0 : a = 0
  · simp [impl_canMove.f, h0]
  · have ew : wrap64 ((s.size : Int) - 1) = (s.size : Int) - 1 := w64 (by omega) (by omega)
    simp only [impl_canMove.f, impl_in.f, inB_ite, Option.bind_some, ew, if_neg h0]
    cases hb : inB a 1 ((s.size : Int) - 1)
    · simp [h0]
    · have h1 := inB_lo hb
      have h2 := inB_hi hb
      have ea : wrap64 (a - 1) = a - 1 := w64 (by omega) (by omega)
      rw [ea, if_pos rfl, if_pos (by omega), if_pos (by omega), if_pos (show a - 1 ≤ (s.size : Int) by omega)]
      by_cases h49 : bt s (a - 1) = 49
      · have hx : (s.extract 0 (a - 1).toNat).size ≤ 9223372036854775807 := by
          rw [Lib.size_eq, extract_toNat, List.length_take]; omega
        have ht : strings_Trim.f (s.extract 0 (a - 1).toNat) (⟨#[48]⟩ : ByteArray) = some ⟨(Lib.trimS (s.data.toList.take (a - 1).toNat) [48]).toArray⟩ := by
          unfold strings_Trim.f
          rw [if_pos ⟨hx, by decide, by decide⟩, extract_toNat]
        rw [if_pos h49, ht]
        simp only [Option.bind_some, trimS_beq]
        congr 1
        have hall : ∀ b ∈ s.data.toList.take (a - 1).toNat, isBit b = true := fun b hb => List.all_eq_true.1 hst b (List.mem_of_mem_take hb)
        generalize s.data.toList.take (a - 1).toNat = l at hall
        simp only [h0, decide_false, Bool.false_or, h49, decide_true, Bool.true_and]
        induction l with
        | nil => rfl
        | cons b l ih =>
          have hb1 := hall b (by simp)
          have ih' := ih (fun x hx => hall x (by simp [hx]))
          simp only [isBit, Bool.or_eq_true, beq_iff_eq] at hb1
          rcases hb1 with rfl | rfl
          · simpa using ih'
          · simp
      · simp [h49, h0]

/-! ### after spec_l1Cur_sureState -/
/-- A drawn text: short, and ASCII. -/
def asc (t : ByteArray) : Prop := t.size ≤ 30 ∧ ∀ b ∈ t.data.toList, b.toNat < 128
theorem asc_bt {t : ByteArray} (h : asc t) (i : Nat) (hi : i < t.size) : 0 ≤ bt t (i : Int) ∧ bt t (i : Int) < 128 := by
  have hi' : i < t.data.toList.length := by simpa using hi
  rw [bt_nat t i hi']
  have := h.2 _ (List.getElem_mem hi')
  omega
theorem of_in {l : List Int} (h : okL l) (p s : Int) (L : List ByteArray) (P : ByteArray → Prop) (hL : ∀ t ∈ L, P t) (hn : L ≠ []) (h0 : 0 ≤ p) (h1 : p ≤ 2305843009213693952) : ∃ t p' s', spec_l1Cur_of.f l p s L = some (t, p', s') ∧ P t ∧ p ≤ p' ∧ p' ≤ p + 2 := by
  obtain ⟨x, p', s', e, x0, x1, h2, h3⟩ := pick_ok h p s (L.length : Int) h0 h1
  have hp := List.length_pos_iff.2 hn
  have hx : x.toNat < L.length := by omega
  refine ⟨rdOf ByteArray.empty L x, p', s', ?_, ?_, h2, h3⟩
  · rw [spec_l1Cur_of.f, e, Option.bind_some, if_pos x0, if_pos (by dsimp only; omega)]
  · have er : rdOf ByteArray.empty L x = L[x.toNat] := by simp [rdOf, hx]
    rw [er]; exact hL _ (List.getElem_mem hx)
def bit1 (t : ByteArray) : Prop := t.size = 1 ∧ ∀ b ∈ t.data.toList, b.toNat < 128
theorem of_bit {l : List Int} (h : okL l) (p s : Int) (h0 : 0 ≤ p) (h1 : p ≤ 2305843009213693952) : ∃ t p' s', spec_l1Cur_of.f l p s ([(⟨#[48]⟩ : ByteArray), (⟨#[49]⟩ : ByteArray)] : List ByteArray) = some (t, p', s') ∧ bit1 t ∧ p ≤ p' ∧ p' ≤ p + 2 :=
  of_in h p s _ bit1 (by
    intro t ht
    simp only [List.mem_cons, List.not_mem_nil, or_false] at ht
    rcases ht with rfl | rfl <;> exact ⟨rfl, by decide⟩) (by simp) h0 h1
theorem asc_add {t x : ByteArray} (ht : ∀ b ∈ t.data.toList, b.toNat < 128) (hx : bit1 x) : ∀ b ∈ (t ++ x).data.toList, b.toNat < 128 := by
  intro b hb
  have e : (t ++ x).data.toList = t.data.toList ++ x.data.toList := by simp
  rw [e, List.mem_append] at hb
  rcases hb with hb | hb
  · exact ht b hb
  · exact hx.2 b hb
theorem sureS_l0 {l : List Int} (h : okL l) : ∀ (d : Nat) (p s : Int) (t : ByteArray), t.size + d ≤ 30 → (∀ b ∈ t.data.toList, b.toNat < 128) → 0 ≤ p → p + 2 * d ≤ 1000000 → ∃ t' p' s', Ev (fun k => spec_l1Cur_sureState.l0 k t (d : Int) l p s) (t', p', s') ∧ asc t' ∧ p ≤ p' ∧ p' ≤ p + 2 * d
  | 0, p, s, t, hd, ht, h0, h1 => ⟨t, p, s, Ev.last fun k => by rw [spec_l1Cur_sureState.l0, if_neg (by omega)], ⟨by omega, ht⟩, by omega, by omega⟩
  | d + 1, p, s, t, hd, ht, h0, h1 => by
    obtain ⟨x, p1, s1, e1, hx, a1, a2⟩ := of_bit h p s h0 (by omega)
    have hs : (t ++ x).size = t.size + 1 := by rw [ByteArray.size_append, hx.1]
    obtain ⟨t', p', s', e, b0, b1, b2⟩ := sureS_l0 h d p1 s1 (t ++ x) (by omega) (asc_add ht hx) (by omega) (by omega)
    refine ⟨t', p', s', Ev.next ⟨0, fun k _ => ?_⟩ e, b0, by omega, by omega⟩
    have ed : wrap64 (((d + 1 : Nat) : Int) - 1) = (d : Int) := by rw [w64 (by omega) (by omega)]; omega
    rw [spec_l1Cur_sureState.l0, if_pos (by omega), e1, Option.bind_some]
    dsimp only
    rw [if_pos (by rw [hx.1]; omega), ed]
theorem sureS_ok {l : List Int} (h : okL l) (p s : Int) (m : Int) (hm : m ≤ 20) (h0 : 0 ≤ p) (h1 : p ≤ 100000) : ∃ t p' s', Ev (fun k => spec_l1Cur_sureState.f k l p s m) (t, p', s') ∧ asc t ∧ p ≤ p' ∧ p' ≤ p + 50 := by
  obtain ⟨x, p1, s1, e1, x0, x1, a1, a2⟩ := pick_ok h p s m h0 (by omega)
  obtain ⟨q, rfl⟩ : ∃ q : Nat, x = q := ⟨x.toNat, by omega⟩
  obtain ⟨t', p', s', ⟨K, hK⟩, b0, b1, b2⟩ := sureS_l0 h (q + 1) p1 s1 ⟨#[]⟩ (by have : (⟨#[]⟩ : ByteArray).size = 0 := rfl; omega) (by intro b hb; simp at hb) (by omega) (by omega)
  refine ⟨t', p', s', ⟨K, fun k hk => ?_⟩, b0, by omega, by omega⟩
  have hK := hK k hk
  simp only at hK
  dsimp only
  have ew : wrap64 (1 + (q : Int)) = ((q + 1 : Nat) : Int) := by rw [w64 (by omega) (by omega)]; omega
  rw [spec_l1Cur_sureState.f, e1, Option.bind_some]
  dsimp only
  rw [ew]
  exact hK

/-! ### after spec_l1Cur_state -/
theorem dstate_ok {l : List Int} (h : okL l) (p s : Int) (h0 : 0 ≤ p) (h1 : p ≤ 50000) : ∃ t p' s', Ev (fun k => spec_l1Cur_state.f k l p s) (t, p', s') ∧ asc t ∧ p ≤ p' ∧ p' ≤ p + 60 := by
  obtain ⟨c, p1, s1, e1, a1, a2⟩ := one_ok h p s 12 h0 (by omega)
  cases c with
  | true =>
    obtain ⟨t, p2, s2, e2, ht, b1, b2⟩ := of_in h p1 s1 ([(⟨#[]⟩ : ByteArray), (⟨#[50]⟩ : ByteArray), (⟨#[48, 120]⟩ : ByteArray), (⟨#[49, 49, 49, 49, 49, 49, 49, 49, 49, 49, 49, 49, 49, 49, 49, 49, 49, 49, 49, 49, 49]⟩ : ByteArray), (⟨#[49, 49, 49, 49, 49, 49, 49, 49, 49, 49, 49, 49, 49, 49, 49, 49, 49, 49, 49, 49]⟩ : ByteArray), (⟨#[48, 48, 48, 48, 48, 48, 48, 48, 48, 48, 48, 48, 48, 48, 48, 48, 48, 48, 48, 49]⟩ : ByteArray)] : List ByteArray) asc (by
      intro t ht
      simp only [List.mem_cons, List.not_mem_nil, or_false] at ht
      rcases ht with rfl | rfl | rfl | rfl | rfl | rfl <;> exact ⟨by decide, by decide⟩) (by simp) (by omega) (by omega)
    refine ⟨t, p2, s2, ⟨0, fun k _ => ?_⟩, ht, by omega, by omega⟩
    dsimp only
    rw [spec_l1Cur_state.f, e1, Option.bind_some, if_pos rfl]
    dsimp only
    rw [e2, Option.bind_some]
  | false =>
    obtain ⟨t, p2, s2, ⟨K, hK⟩, ht, b1, b2⟩ := sureS_ok h p1 s1 8 (by omega) (by omega) (by omega)
    refine ⟨t, p2, s2, ⟨K, fun k hk => ?_⟩, ht, by omega, by omega⟩
    have hK := hK k hk
    simp only at hK
    dsimp only
    rw [spec_l1Cur_state.f, e1, Option.bind_some, if_neg (by simp)]
    dsimp only
    rw [hK, Option.bind_some]

/-! ### after spec_l1Cur_states -/
theorem states_l0 {l : List Int} (h : okL l) (a : ByteArray) (ha : asc a) : ∀ (d i : Nat) (p s : Int) (t : ByteArray), i + d = a.size → t.size ≤ i → (∀ b ∈ t.data.toList, b.toNat < 128) → 0 ≤ p → p + 2 * d ≤ 1000000 → ∃ t' p' s', Ev (fun k => spec_l1Cur_states.l0 k a t a (i : Int) l p s) (a, t', p', s') ∧ asc t' ∧ p ≤ p' ∧ p' ≤ p + 2 * d
  | 0, i, p, s, t, hi, ht, hb, h0, h1 => ⟨t, p, s, Ev.last fun k => by rw [spec_l1Cur_states.l0, if_neg (by omega)], ⟨by have := ha.1; omega, hb⟩, by omega, by omega⟩
  | d + 1, i, p, s, t, hi, ht, hb, h0, h1 => by
    have h30 := ha.1
    obtain ⟨x, p1, s1, e1, hx, a1, a2⟩ := of_bit h p s h0 (by omega)
    have hs : (t ++ x).size = t.size + 1 := by rw [ByteArray.size_append, hx.1]
    obtain ⟨t', p', s', e, b0, b1, b2⟩ := states_l0 h a ha d (i + 1) p1 s1 (t ++ x) (by omega) (by omega) (asc_add hb hx) (by omega) (by omega)
    refine ⟨t', p', s', Ev.next ⟨0, fun k _ => ?_⟩ e, b0, by omega, by omega⟩
    have ed : wrap64 ((i : Int) + 1) = ((i + 1 : Nat) : Int) := by rw [w64 (by omega) (by omega)]; omega
    have hbt := asc_bt ha i (by omega)
    rw [spec_l1Cur_states.l0, if_pos (by omega), if_pos (by omega), if_pos hbt.2, if_pos (by omega), e1, Option.bind_some]
    dsimp only
    rw [if_pos (by rw [hx.1]; omega), ed]
theorem dstates_ok {l : List Int} (h : okL l) (p s : Int) (h0 : 0 ≤ p) (h1 : p ≤ 10000) : ∃ a b p' s', Ev (fun k => spec_l1Cur_states.f k l p s) (a, b, p', s') ∧ asc a ∧ asc b ∧ p ≤ p' ∧ p' ≤ p + 200 := by
  obtain ⟨a, p1, s1, ⟨K1, e1⟩, ha, a1, a2⟩ := dstate_ok h p s h0 (by omega)
  obtain ⟨c, p2, s2, e2, b1, b2⟩ := one_ok h p1 s1 12 (by omega) (by omega)
  have h30 := ha.1
  cases c with
  | true =>
    obtain ⟨b, p3, s3, ⟨K3, e3⟩, hb, c1, c2⟩ := dstate_ok h p2 s2 (by omega) (by omega)
    refine ⟨a, b, p3, s3, ⟨K1 + K3, fun k hk => ?_⟩, ha, hb, by omega, by omega⟩
    have e1 := e1 k (by omega)
    have e3 := e3 k (by omega)
    simp only at e1 e3
    dsimp only
    rw [spec_l1Cur_states.f, e1, Option.bind_some]
    dsimp only
    rw [e2, Option.bind_some, if_pos rfl]
    dsimp only
    rw [e3, Option.bind_some]
  | false =>
    obtain ⟨b, p3, s3, ⟨K3, e3⟩, hb, c1, c2⟩ := states_l0 h a ha a.size 0 p2 s2 ⟨#[]⟩ (by omega) (by decide) (by intro b hb; simp at hb) (by omega) (by omega)
    refine ⟨a, b, p3, s3, ⟨K1 + K3, fun k hk => ?_⟩, ha, hb, by omega, by omega⟩
    have e1 := e1 k (by omega)
    have e3 := e3 k (by omega)
    simp only at e1 e3
    dsimp only
    rw [spec_l1Cur_states.f, e1, Option.bind_some]
    dsimp only
    rw [e2, Option.bind_some, if_neg (by simp)]
    exact e3

/-! ### after spec_DrawMeanFrom -/
theorem drawFrom_ok {l : List Int} (h : okL l) : ∃ a b, Ev (fun k => spec_DrawMeanFrom.f k l) (a, b) ∧ asc a ∧ asc b := by
  obtain ⟨a, b, p, s, ⟨K, e⟩, ha, hb, _, _⟩ := dstates_ok h 0 0 (by omega) (by omega)
  refine ⟨a, b, ⟨K, fun k hk => ?_⟩, ha, hb⟩
  have e := e k hk
  simp only at e
  dsimp only
  rw [spec_DrawMeanFrom.f, spec_DrawFewestMoves.f, e, Option.bind_some, Option.bind_some]

/-! ### after spec_DrawWalksTo -/
theorem drawWalks_ok {l : List Int} (h : okL l) : ∃ a b n, Ev (fun k => spec_DrawWalksTo.f k l) (a, b, n) ∧ asc a ∧ asc b := by
  obtain ⟨a, b, p, s, ⟨K, e⟩, ha, hb, p0, p1⟩ := dstates_ok h 0 0 (by omega) (by omega)
  obtain ⟨t, q, z, f, _, _⟩ := among_ok h p s ([0, 1, 2, 3, 5, 8, 40, 41, (-1)] : List Int) (by simp) (by omega) (by omega)
  refine ⟨a, b, t, ⟨K, fun k hk => ?_⟩, ha, hb⟩
  have e := e k hk
  simp only at e
  dsimp only
  rw [spec_DrawWalksTo.f, e, Option.bind_some]
  dsimp only
  rw [f, Option.bind_some]

/-! ### after spec_DrawChanceBefore -/
theorem drawChance_l0 {l : List Int} (h : okL l) (a b : ByteArray) (ha : asc a) : ∀ (d i : Nat) (p s : Int) (t : ByteArray), i + d = a.size → t.size ≤ i → (∀ b ∈ t.data.toList, b.toNat < 128) → 0 ≤ p → p + 2 * d ≤ 1000000 → ∃ t', Ev (fun k => spec_DrawChanceBefore.l0 k a b t a (i : Int) l p s) (t', a, b) ∧ asc t'
  | 0, i, p, s, t, hi, ht, hb, h0, h1 => ⟨t, Ev.last fun k => by rw [spec_DrawChanceBefore.l0, if_neg (by omega)], ⟨by have := ha.1; omega, hb⟩⟩
  | d + 1, i, p, s, t, hi, ht, hb, h0, h1 => by
    have h30 := ha.1
    obtain ⟨x, p1, s1, e1, hx, a1, a2⟩ := of_bit h p s h0 (by omega)
    have hs : (t ++ x).size = t.size + 1 := by rw [ByteArray.size_append, hx.1]
    obtain ⟨t', e, b0⟩ := drawChance_l0 h a b ha d (i + 1) p1 s1 (t ++ x) (by omega) (by omega) (asc_add hb hx) (by omega) (by omega)
    refine ⟨t', Ev.next ⟨0, fun k _ => ?_⟩ e, b0⟩
    have ed : wrap64 ((i : Int) + 1) = ((i + 1 : Nat) : Int) := by rw [w64 (by omega) (by omega)]; omega
    have hbt := asc_bt ha i (by omega)
    rw [spec_DrawChanceBefore.l0, if_pos (by omega), if_pos (by omega), if_pos hbt.2, if_pos (by omega), e1, Option.bind_some]
    dsimp only
    rw [if_pos (by rw [hx.1]; omega), ed]
theorem drawChance_ok {l : List Int} (h : okL l) : ∃ s a b, Ev (fun k => spec_DrawChanceBefore.f k l) (s, a, b) ∧ asc s ∧ asc a ∧ asc b := by
  obtain ⟨a, b, p, s, ⟨K, e⟩, ha, hb, p0, p1⟩ := dstates_ok h 0 0 (by omega) (by omega)
  obtain ⟨t, ⟨K2, f⟩, ht⟩ := drawChance_l0 h a b ha a.size 0 p s ⟨#[]⟩ (by omega) (by decide) (by intro b hb; simp at hb) (by omega) (by have := ha.1; omega)
  refine ⟨t, a, b, ⟨K + K2, fun k hk => ?_⟩, ht, ha, hb⟩
  have e := e k (by omega)
  have f := f k (by omega)
  simp only at e f
  dsimp only
  rw [spec_DrawChanceBefore.f, e, Option.bind_some]
  exact f

/-! ### after impl_bits -/
/-- A state as a number, ring k being worth 2 to the power k. -/
def bitN : List UInt8 → Nat
  | [] => 0
  | b :: t => (b.toNat - 48) + 2 * bitN t
theorem bitN_lt : ∀ s : List UInt8, s.all isBit = true → bitN s < 2 ^ s.length
  | [], _ => by simp [bitN]
  | b :: t, h => by
    rw [List.all_cons, Bool.and_eq_true] at h
    have := bitN_lt t h.2
    rw [bitN, List.length_cons, Nat.pow_succ]
    rcases bit_cases h.1 with rfl | rfl
    · show (48 - 48) + 2 * bitN t < _; omega
    · show (49 - 48) + 2 * bitN t < _; omega
theorem pow20 {n : Nat} (h : n ≤ 20) : 2 ^ n ≤ 1048576 := Nat.le_trans (Nat.pow_le_pow_right (by omega) h) (by decide)
theorem pow2_le {a b : Nat} (h : a ≤ b) : 2 ^ a ≤ 2 ^ b := Nat.pow_le_pow_right (by omega) h
theorem bits_l0 (s : ByteArray) (hs : s.size ≤ 20) (hb : s.data.toList.all isBit = true) : ∀ i : Nat, i ≤ s.data.toList.length → Ev (fun k => impl_bits.l0 k s (bitN (s.data.toList.drop i) : Int) ((i : Int) - 1)) (bitN s.data.toList : Int)
  | 0, _ => Ev.last fun k => by rw [impl_bits.l0, if_neg (by omega), List.drop_zero]
  | i + 1, h => by
    have hz := Lib.size_eq s
    have hlt : i < s.data.toList.length := by omega
    have hall : ∀ x ∈ s.data.toList.drop i, isBit x = true := fun x hx => List.all_eq_true.1 hb x (List.mem_of_mem_drop hx)
    have hl := bitN_lt (s.data.toList.drop i) (List.all_eq_true.2 hall)
    have hp := pow20 (n := (s.data.toList.drop i).length) (by rw [List.length_drop]; omega)
    have hd := List.drop_eq_getElem_cons hlt
    have e : bitN (s.data.toList.drop i) = (s.data.toList[i].toNat - 48) + 2 * bitN (s.data.toList.drop (i + 1)) := by rw [hd, bitN]
    have hbit := hall s.data.toList[i] (by rw [hd]; exact List.mem_cons_self)
    have eb := bt_nat s i hlt
    have ei : ((i + 1 : Nat) : Int) - 1 = (i : Int) := by omega
    refine Ev.next ⟨0, fun k _ => ?_⟩ (bits_l0 s hs hb i (by omega))
    rw [impl_bits.l0, ei, if_pos (by omega), if_pos (by omega), if_pos (by omega), eb, e]
    have h48 : 48 ≤ s.data.toList[i].toNat ∧ s.data.toList[i].toNat ≤ 49 := by
      rcases bit_cases hbit with h | h <;> rw [h] <;> decide
    rw [w64 (a := 2 * (bitN (s.data.toList.drop (i + 1)) : Int)) (by omega) (by omega), w64 (by omega) (by omega), w64 (by omega) (by omega)]
    congr 1
    omega
theorem bits_ev (s : ByteArray) (hs : s.size ≤ 20) (hb : s.data.toList.all isBit = true) : Ev (fun k => impl_bits.f k s) (bitN s.data.toList : Int) := by
  have hz := Lib.size_eq s
  obtain ⟨K, hK⟩ := bits_l0 s hs hb s.data.toList.length (Nat.le_refl _)
  refine ⟨K, fun k hk => ?_⟩
  have := hK k hk
  rw [List.drop_length] at this
  unfold impl_bits.f
  rw [hz, w64 (by omega) (by omega)]
  exact this

/-! ### after impl_unreflected -/
def unR : Nat → Nat → Nat
  | 0, _ => 0
  | f + 1, g => g ^^^ unR f (g / 2)
theorem unR_zero : ∀ f, unR f 0 = 0
  | 0 => rfl
  | f + 1 => by rw [unR, Nat.zero_div, unR_zero f]; rfl
theorem unR_half : ∀ (f g : Nat), g < 2 ^ (f + 1) → unR (f + 1) g / 2 = unR f (g / 2)
  | 0, g, h => by
    have : g < 2 := by simpa using h
    simp only [unR, Nat.xor_zero]; omega
  | f + 1, g, h => by
    rw [Nat.pow_succ] at h
    rw [unR, Nat.xor_div_two, unR_half f (g / 2) (by omega), unR]
theorem unR_fix : ∀ (f g : Nat), g < 2 ^ f → g ^^^ (unR f g / 2) = unR f g
  | 0, g, h => by
    have : g = 0 := by simpa using h
    subst this; rfl
  | f + 1, g, h => by rw [unR_half f g h, unR]
theorem xor_i64 (a b : Nat) (ha : a < 4611686018427387904) (hb : b < 4611686018427387904) : Go.bits .xor .i64 (a : Int) (b : Int) = ((a ^^^ b : Nat) : Int) := by
  have ha' : a % 2 ^ IntKind.i64.bits = a := Nat.mod_eq_of_lt (Nat.lt_of_lt_of_le ha (by decide))
  have hb' : b % 2 ^ IntKind.i64.bits = b := Nat.mod_eq_of_lt (Nat.lt_of_lt_of_le hb (by decide))
  have hx : a ^^^ b < 2 ^ 62 := Nat.xor_lt_two_pow (by simpa using ha) (by simpa using hb)
  simp only [Go.bits, BitVec.ofInt_natCast, BitVec.toNat_xor, BitVec.toNat_ofNat, ha', hb']
  have e62 : (2 : Nat) ^ 62 = 4611686018427387904 := by decide
  rw [i64_w, w64 (by omega) (by omega)]
theorem unref_l0 : ∀ (f g n : Nat), f ≤ 40 → g < 2 ^ f → n < 2 ^ 40 → Ev (fun k => impl_unreflected.l0 k (g : Int) (n : Int)) ((n ^^^ unR f g : Nat) : Int)
  | 0, g, n, _, hg, _ => by
    have : g = 0 := by simpa using hg
    subst this
    refine Ev.last fun k => ?_
    rw [impl_unreflected.l0, if_neg (by omega), unR, Nat.xor_zero]
  | f + 1, g, n, hf, hg, hn => by
    have h1 := pow2_le hf
    have e40 : (2 : Nat) ^ 40 = 1099511627776 := by decide
    by_cases c : g = 0
    · subst c
      refine Ev.last fun k => ?_
      rw [impl_unreflected.l0, if_neg (by omega), unR_zero, Nat.xor_zero]
    · have hx : n ^^^ g < 2 ^ 40 := Nat.xor_lt_two_pow hn (by omega)
      have e : n ^^^ unR (f + 1) g = (n ^^^ g) ^^^ unR f (g / 2) := by rw [unR, Nat.xor_assoc]
      rw [e]
      have hg2 : g / 2 < 2 ^ f := by rw [Nat.pow_succ] at hg; omega
      refine Ev.next ⟨0, fun k _ => ?_⟩ (unref_l0 f (g / 2) (n ^^^ g) (by omega) hg2 hx)
      have et : Int.tdiv (g : Int) 2 = ((g / 2 : Nat) : Int) := rfl
      rw [impl_unreflected.l0, if_pos (by omega), xor_i64 n g (by omega) (by omega), et, w64 (by omega) (by omega)]

/-! ### after impl_number -/
theorem unR_grN : ∀ s : List UInt8, s.all isBit = true → unR s.length (bitN s) = grN s
  | [], _ => rfl
  | b :: t, h => by
    rw [List.all_cons, Bool.and_eq_true] at h
    have ih := unR_grN t h.2
    have hl := bitN_lt t h.2
    have hf := unR_fix t.length (bitN t) hl
    rw [ih] at hf
    have hb : b.toNat - 48 < 2 ∧ (b.toNat - 48) % 2 = b.toNat % 2 := by
      rcases bit_cases h.1 with rfl | rfl <;> decide
    have e1 : bitN (b :: t) / 2 = bitN t := by rw [bitN]; omega
    have e2 : bitN (b :: t) % 2 = b.toNat % 2 := by rw [bitN]; omega
    rw [List.length_cons, unR, e1, ih]
    show bitN (b :: t) ^^^ grN t = 2 * grN t + (b.toNat + grN t) % 2
    have d : (bitN (b :: t) ^^^ grN t) / 2 = grN t := by rw [Nat.xor_div_two, e1, hf]
    have m : (bitN (b :: t) ^^^ grN t) % 2 = (b.toNat + grN t) % 2 := by
      have q := @Nat.xor_mod_two_eq_one (bitN (b :: t)) (grN t)
      generalize (bitN (b :: t) ^^^ grN t) = x at q ⊢
      generalize bitN (b :: t) = y at q e2
      generalize grN t = z at q ⊢
      by_cases c1 : y % 2 = 1
      · by_cases c2 : z % 2 = 1
        · have : ¬ x % 2 = 1 := fun h => q.1 h ⟨fun _ => c2, fun _ => c1⟩
          omega
        · have : x % 2 = 1 := q.2 (fun h => c2 (h.1 c1))
          omega
      · by_cases c2 : z % 2 = 1
        · have : x % 2 = 1 := q.2 (fun h => c1 (h.2 c2))
          omega
        · have : ¬ x % 2 = 1 := fun h => q.1 h ⟨fun h => absurd h c1, fun h => absurd h c2⟩
          omega
    omega
theorem state_facts {s : ByteArray} (h : stateB s = true) : 1 ≤ s.size ∧ s.size ≤ 20 ∧ s.data.toList.all isBit = true ∧ s.data.toList.length = s.size := by
  simp only [stateB, Bool.and_eq_true] at h
  have h1 := inB_lo h.1
  have h2 := inB_hi h.1
  exact ⟨by omega, by omega, h.2, (Lib.size_eq s).symm⟩
theorem number_ev {s : ByteArray} (h : stateB s = true) : Ev (fun k => impl_number.f k s) (grN s.data.toList : Int) := by
  obtain ⟨h1, h2, h3, h4⟩ := state_facts h
  obtain ⟨K1, e1⟩ := bits_ev s h2 h3
  have hl := bitN_lt s.data.toList h3
  obtain ⟨K2, e2⟩ := unref_l0 s.data.toList.length (bitN s.data.toList) 0 (by omega) hl (by decide)
  refine ⟨K1 + K2, fun k hk => ?_⟩
  have e1 := e1 k (by omega)
  have e2 := e2 k (by omega)
  simp only at e1 e2
  rw [Nat.zero_xor, unR_grN _ h3] at e2
  dsimp only
  rw [impl_number.f, e1, Option.bind_some]
  unfold impl_unreflected.f
  have e0 : ((0 : Nat) : Int) = 0 := rfl
  rw [e0] at e2
  rw [e2]
  rfl

/-! ### after spec_riNumber -/
theorem riNumber_l0 (s : ByteArray) (hs : s.size ≤ 20) (hb : s.data.toList.all isBit = true) : ∀ i : Nat, i ≤ s.data.toList.length →
    Ev (fun k => spec_riNumber.l0 k s (grN (s.data.toList.drop i) : Int) ((grN (s.data.toList.drop i) % 2 : Nat) : Int) ((i : Int) - 1)) (grN s.data.toList : Int)
  | 0, _ => Ev.last fun k => by rw [spec_riNumber.l0, if_neg (by omega), List.drop_zero]
  | i + 1, h => by
    have hz := Lib.size_eq s
    have hlt : i < s.data.toList.length := by omega
    have hall : ∀ x ∈ s.data.toList.drop i, isBit x = true := fun x hx => List.all_eq_true.1 hb x (List.mem_of_mem_drop hx)
    have hl := grN_lt (s.data.toList.drop i)
    have hp : 2 ^ (s.data.toList.drop i).length ≤ 1048576 := Nat.le_trans (Nat.pow_le_pow_right (by omega) (show (s.data.toList.drop i).length ≤ 20 by rw [List.length_drop]; omega)) (by decide)
    have hd := List.drop_eq_getElem_cons hlt
    have e : grN (s.data.toList.drop i) = 2 * grN (s.data.toList.drop (i + 1)) + (s.data.toList[i].toNat + grN (s.data.toList.drop (i + 1))) % 2 := by rw [hd, grN]
    have hbit := hall s.data.toList[i] (by rw [hd]; exact List.mem_cons_self)
    have eb := bt_nat s i hlt
    have ei : ((i + 1 : Nat) : Int) - 1 = (i : Int) := by omega
    refine Ev.next ⟨0, fun k _ => ?_⟩ (riNumber_l0 s hs hb i (by omega))
    rw [spec_riNumber.l0, ei, if_pos (by omega), if_pos (by omega), if_pos (by omega), eb]
    generalize grN (s.data.toList.drop (i + 1)) = m at e ⊢
    generalize grN (s.data.toList.drop i) = n at e hl ⊢
    rcases bit_cases hbit with hq | hq
    · rw [hq] at e ⊢
      have e48 : (48 : UInt8).toNat = 48 := rfl
      rw [e48] at e ⊢
      rw [if_neg (by omega), w64 (a := 2 * (m : Int)) (by omega) (by omega), w64 (by omega) (by omega), w64 (by omega) (by omega)]
      rw [show 2 * (m : Int) + ((m % 2 : Nat) : Int) = (n : Int) by omega, show ((m % 2 : Nat) : Int) = ((n % 2 : Nat) : Int) by omega]
    · rw [hq] at e ⊢
      have e49 : (49 : UInt8).toNat = 49 := rfl
      rw [e49] at e ⊢
      rw [if_pos (by omega), w64 (a := 2 * (m : Int)) (by omega) (by omega), w64 (a := 1 - ((m % 2 : Nat) : Int)) (by omega) (by omega), w64 (by omega) (by omega), w64 (by omega) (by omega)]
      rw [show 2 * (m : Int) + (1 - ((m % 2 : Nat) : Int)) = (n : Int) by omega, show 1 - ((m % 2 : Nat) : Int) = ((n % 2 : Nat) : Int) by omega]
theorem riNumber_ev {s : ByteArray} (h : stateB s = true) : Ev (fun k => spec_riNumber.f k s) (grN s.data.toList : Int) := by
  obtain ⟨h1, h2, h3, h4⟩ := state_facts h
  obtain ⟨K, hK⟩ := riNumber_l0 s h2 h3 s.data.toList.length (Nat.le_refl _)
  refine ⟨K, fun k hk => ?_⟩
  have := hK k hk
  rw [List.drop_length] at this
  unfold spec_riNumber.f
  rw [← h4, w64 (by omega) (by omega)]
  exact this

/-! ### after impl_alike -/
def twoB (a b : ByteArray) : Bool := stateB a && (stateB b && ((a.size : Int) == (b.size : Int)))
theorem alike_eq (a b : ByteArray) (ha : a.size ≤ 1048576) (hb : b.size ≤ 1048576) : impl_alike.f a b = some (twoB a b) := by
  unfold impl_alike.f twoB
  rw [isState_eq a (by omega), isState_eq b (by omega)]
  simp only [Option.bind_some]
  cases stateB a <;> cases stateB b <;> simp
theorem two_facts {a b : ByteArray} (h : twoB a b = true) : stateB a = true ∧ stateB b = true ∧ a.size = b.size := by
  simp only [twoB, Bool.and_eq_true, beq_iff_eq] at h
  exact ⟨h.1, h.2.1, by omega⟩
theorem two_of {a b : ByteArray} (ha : stateB a = true) (hb : stateB b = true) (h : a.size = b.size) : twoB a b = true := by
  simp [twoB, ha, hb, h]
theorem shl_pow2 {n : Nat} (h : n ≤ 60) : shl .i64 1 (n : Int) = ((2 ^ n : Nat) : Int) := by
  have h2 : 2 ^ n ≤ 2 ^ 60 := Nat.pow_le_pow_right (by omega) h
  have e60 : (2 : Nat) ^ 60 = 1152921504606846976 := by decide
  have e : (1 : Int) * 2 ^ n = ((2 ^ n : Nat) : Int) := by rw [Int.one_mul, Int.natCast_pow]; rfl
  have hm : min ((n : Int).toNat) IntKind.i64.bits = n := by
    rw [Int.toNat_natCast]; exact Nat.min_eq_left (Nat.le_trans h (by decide))
  have hw0 : ∀ q : Nat, q ≤ 1152921504606846976 → wrap64 (q : Int) = (q : Int) := fun q hq => w64 (by omega) (by omega)
  have hw := hw0 (2 ^ n) (by rw [← e60]; exact h2)
  have hs : shl .i64 1 (n : Int) = IntKind.i64.wrap ((1 : Int) * 2 ^ min ((n : Int).toNat) IntKind.i64.bits) := rfl
  rw [hs, hm, e, i64_w, hw]
/-- The number of a state, and the greatest one. -/
def numS (s : ByteArray) : Nat := grN s.data.toList
def lastS (s : ByteArray) : Nat := 2 ^ s.size - 1
theorem last_facts {s : ByteArray} (h : stateB s = true) : 1 ≤ lastS s ∧ lastS s ≤ 1048575 ∧ numS s ≤ lastS s ∧ 2 ^ s.size = lastS s + 1 ∧ wrap64 (shl .i64 1 (s.size : Int) - 1) = (lastS s : Int) := by
  obtain ⟨h1, h2, h3, h4⟩ := state_facts h
  have hp : 2 ^ s.size ≤ 2 ^ 20 := Nat.pow_le_pow_right (by omega) h2
  have hq : 2 ^ 1 ≤ 2 ^ s.size := Nat.pow_le_pow_right (by omega) h1
  have e20 : (2 : Nat) ^ 20 = 1048576 := by decide
  have hl := grN_lt s.data.toList
  rw [h4] at hl
  rw [shl_pow2 (by omega)]
  unfold lastS numS
  refine ⟨by omega, by omega, by omega, by omega, ?_⟩
  rw [w64 (by omega) (by omega)]
  omega
theorem numS_inj {a b : ByteArray} (ha : stateB a = true) (hb : stateB b = true) (hs : a.size = b.size) : a.toList = b.toList ↔ numS a = numS b := by
  obtain ⟨_, _, a3, a4⟩ := state_facts ha
  obtain ⟨_, _, b3, b4⟩ := state_facts hb
  rw [Lib.toList_data, Lib.toList_data]
  exact ⟨fun h => by unfold numS; rw [h], fun h => grN_inj a3 b3 (by omega) h⟩

/-! ### after spec_riTwo -/
theorem riTwo_ev (a b : ByteArray) : Ev (fun k => spec_riTwo.f k a b) (twoB a b) := by
  obtain ⟨K1, h1⟩ := riGood_ev a
  obtain ⟨K2, h2⟩ := riGood_ev b
  refine ⟨K1 + K2, fun k hk => ?_⟩
  have h1 := h1 k (by omega)
  have h2 := h2 k (by omega)
  simp only at h1 h2
  simp only [spec_riTwo.f, h1, h2, Option.bind_some, twoB]
  cases stateB a <;> cases stateB b <;> simp

/-! ### after impl_mean -/
def meanZ (x y l : Nat) : Nat := if x ≤ y then y * y - x * x else (l - y) * (l - y) - (l - x) * (l - x)
theorem sq_le {a b : Nat} (h : a ≤ b) : a * a ≤ b * b := Nat.mul_le_mul h h
theorem sq_diff (x y : Nat) (h : x ≤ y) : ((y : Int) - x) * (2 * (y : Int) - ((y : Int) - x)) = ((y * y - x * x : Nat) : Int) := by
  rw [Int.natCast_sub (sq_le h), Int.natCast_mul, Int.natCast_mul]
  grind
theorem implMean_eq (x y l : Nat) (hx : x ≤ l) (hy : y ≤ l) (hl : l ≤ 1048575) : impl_mean.f (x : Int) (y : Int) (l : Int) = some (meanZ x y l : Int) := by
  have b1 := sq_le (show y ≤ 1048575 by omega)
  have b2 := sq_le (show l - y ≤ 1048575 by omega)
  unfold impl_mean.f meanZ
  by_cases c : x ≤ y
  · rw [if_pos c]
    by_cases c2 : x = y
    · subst c2
      rw [if_neg (by omega)]
      have e : (x : Int) - x = 0 := by omega
      rw [e, w64 (a := 0) (by omega) (by omega), Int.zero_mul, w64 (a := 0) (by omega) (by omega), Nat.sub_self]; rfl
    · have e := sq_diff x y c
      rw [if_pos (by omega), w64 (a := (l : Int) - x) (by omega) (by omega), w64 (a := (l : Int) - y) (by omega) (by omega)]
      rw [show (l : Int) - x - (l - y) = y - x by omega, show (l : Int) - (l - y) = y by omega, w64 (a := (y : Int) - x) (by omega) (by omega), w64 (a := (y : Int)) (by omega) (by omega), w64 (a := 2 * (y : Int)) (by omega) (by omega), w64 (a := 2 * (y : Int) - (y - x)) (by omega) (by omega), e, w64 (by omega) (by omega)]
  · have e := sq_diff (l - x) (l - y) (by omega)
    rw [Int.natCast_sub hx, Int.natCast_sub hy] at e
    rw [if_neg c, if_neg (by omega), w64 (a := (x : Int) - y) (by omega) (by omega), w64 (a := (l : Int) - y) (by omega) (by omega), w64 (a := 2 * ((l : Int) - y)) (by omega) (by omega), w64 (a := 2 * ((l : Int) - y) - (x - y)) (by omega) (by omega)]
    rw [show (l : Int) - y - (l - x) = x - y by omega] at e
    rw [e, w64 (by omega) (by omega)]

/-! ### after spec_waMean -/
theorem specMean_eq (x y l : Nat) (hx : x ≤ l) (hy : y ≤ l) (hl : l ≤ 1048575) : spec_waMean.f (x : Int) (y : Int) (l : Int) = some (meanZ x y l : Int) := by
  have b1 := sq_le (show y ≤ 1048575 by omega)
  have b2 := sq_le (show l - y ≤ 1048575 by omega)
  have b3 := sq_le (show x ≤ 1048575 by omega)
  have b4 := sq_le (show l - x ≤ 1048575 by omega)
  unfold spec_waMean.f meanZ
  by_cases c : x ≤ y
  · have c1 := sq_le c
    rw [if_pos c, if_pos (by omega), ← Int.natCast_mul, ← Int.natCast_mul, w64 (a := ((y * y : Nat) : Int)) (by omega) (by omega), w64 (a := ((x * x : Nat) : Int)) (by omega) (by omega), w64 (by omega) (by omega)]
    congr 1; omega
  · have c1 := sq_le (show l - x ≤ l - y by omega)
    have e1 : ((l : Int) - y) = ((l - y : Nat) : Int) := by omega
    have e2 : ((l : Int) - x) = ((l - x : Nat) : Int) := by omega
    rw [if_neg c, if_neg (by omega), e1, e2, w64 (a := ((l - y : Nat) : Int)) (by omega) (by omega), w64 (a := ((l - x : Nat) : Int)) (by omega) (by omega), ← Int.natCast_mul, ← Int.natCast_mul, w64 (a := (((l - y) * (l - y) : Nat) : Int)) (by omega) (by omega), w64 (a := (((l - x) * (l - x) : Nat) : Int)) (by omega) (by omega), w64 (by omega) (by omega)]
    congr 1; omega

/-! ### after impl_MeanFrom -/
def meanR (a b : ByteArray) : Int × Bool := if twoB a b = true then ((meanZ (numS a) (numS b) (lastS a) : Int), true) else (0, false)
theorem implMeanFrom_ev (a b : ByteArray) (ha : a.size ≤ 1048576) (hb : b.size ≤ 1048576) : Ev (fun k => impl_MeanFrom.f k a b) (meanR a b) := by
  unfold meanR
  by_cases c : twoB a b = true
  · obtain ⟨h1, h2, h3⟩ := two_facts c
    obtain ⟨K1, e1⟩ := number_ev h1
    obtain ⟨K2, e2⟩ := number_ev h2
    obtain ⟨l1, l2, l3, l4, l5⟩ := last_facts h1
    obtain ⟨_, _, m3, m4, _⟩ := last_facts h2
    have hlb : lastS b = lastS a := by unfold lastS; rw [h3]
    refine ⟨K1 + K2, fun k hk => ?_⟩
    have e1 := e1 k (by omega)
    have e2 := e2 k (by omega)
    simp only at e1 e2
    have em := implMean_eq (numS a) (numS b) (lastS a) l3 (by omega) l2
    unfold numS at em ⊢
    simp only [impl_MeanFrom.f, alike_eq a b ha hb, c, Option.bind_some, if_true, e1, e2, l5, em]
  · exact ⟨0, fun k _ => by simp [impl_MeanFrom.f, alike_eq a b ha hb, c]⟩

/-! ### after spec_waNumbers -/
theorem waNumbers_ev {a b : ByteArray} (h1 : stateB a = true) (h2 : stateB b = true) : Ev (fun k => spec_waNumbers.f k a b) ((numS a : Int), (numS b : Int), (lastS a : Int)) := by
  obtain ⟨K1, e1⟩ := riNumber_ev h1
  obtain ⟨K2, e2⟩ := riNumber_ev h2
  obtain ⟨l1, l2, l3, l4, l5⟩ := last_facts h1
  refine ⟨K1 + K2, fun k hk => ?_⟩
  have e1 := e1 k (by omega)
  have e2 := e2 k (by omega)
  simp only at e1 e2
  simp only [spec_waNumbers.f, e1, e2, Option.bind_some, l5]
  rfl

/-! ### after spec_MeanFrom -/
theorem specMeanFrom_ev (a b : ByteArray) : Ev (fun k => spec_MeanFrom.f k a b) (meanR a b) := by
  unfold meanR
  obtain ⟨K0, e0⟩ := riTwo_ev a b
  by_cases c : twoB a b = true
  · obtain ⟨h1, h2, h3⟩ := two_facts c
    obtain ⟨K1, e1⟩ := waNumbers_ev h1 h2
    obtain ⟨l1, l2, l3, l4, l5⟩ := last_facts h1
    obtain ⟨_, _, m3, m4, _⟩ := last_facts h2
    have hlb : lastS b = lastS a := by unfold lastS; rw [h3]
    refine ⟨K0 + K1, fun k hk => ?_⟩
    have e0 := e0 k (by omega)
    have e1 := e1 k (by omega)
    simp only at e0 e1
    simp only [spec_MeanFrom.f, e0, c, Option.bind_some, if_true, e1, specMean_eq (numS a) (numS b) (lastS a) l3 (by omega) l2]
  · refine ⟨K0, fun k hk => ?_⟩
    have e0 := e0 k (by omega)
    simp only at e0
    simp [spec_MeanFrom.f, e0, c]

/-! ### after impl_MeanToClear -/
def clearR (a : ByteArray) : Int × Bool := if stateB a = true then ((meanZ (numS a) 0 (lastS a) : Int), true) else (0, false)
theorem implClear_ev (a : ByteArray) (ha : a.size ≤ 1048576) : Ev (fun k => impl_MeanToClear.f k a) (clearR a) := by
  unfold clearR
  by_cases c : stateB a = true
  · obtain ⟨K1, e1⟩ := number_ev c
    obtain ⟨l1, l2, l3, l4, l5⟩ := last_facts c
    refine ⟨K1, fun k hk => ?_⟩
    have e1 := e1 k (by omega)
    simp only at e1
    have em := implMean_eq (numS a) 0 (lastS a) l3 (by omega) l2
    have e0 : ((0 : Nat) : Int) = 0 := rfl
    rw [e0] at em
    unfold numS at em ⊢
    simp only [impl_MeanToClear.f, isState_eq a (by omega), c, Option.bind_some, if_true, e1, l5, em]
  · exact ⟨0, fun k _ => by simp [impl_MeanToClear.f, isState_eq a (by omega), c]⟩

/-! ### after spec_MeanToClear -/
theorem specClear_ev (a : ByteArray) : Ev (fun k => spec_MeanToClear.f k a) (clearR a) := by
  unfold clearR
  obtain ⟨K0, e0⟩ := riGood_ev a
  by_cases c : stateB a = true
  · obtain ⟨K1, e1⟩ := riNumber_ev c
    obtain ⟨l1, l2, l3, l4, l5⟩ := last_facts c
    refine ⟨K0 + K1, fun k hk => ?_⟩
    have e0 := e0 k (by omega)
    have e1 := e1 k (by omega)
    simp only at e0 e1
    have em := specMean_eq (numS a) 0 (lastS a) l3 (by omega) l2
    have ez : ((0 : Nat) : Int) = 0 := rfl
    rw [ez] at em
    unfold numS at em ⊢
    simp only [spec_MeanToClear.f, e0, c, Option.bind_some, if_true, e1, l5, em]
  · refine ⟨K0, fun k hk => ?_⟩
    have e0 := e0 k (by omega)
    simp only at e0
    simp [spec_MeanToClear.f, e0, c]

/-! ### after impl_apart -/
def dist (n m : Nat) : Nat := if n ≤ m then m - n else n - m
theorem apart_eq (n m : Nat) (hn : n ≤ 1048575) (hm : m ≤ 1048575) : impl_apart.f (n : Int) (m : Int) = some (dist n m : Int) := by
  unfold impl_apart.f dist
  rw [w64 (by omega) (by omega), w64 (by omega) (by omega)]
  congr 1
  unfold mx
  split <;> split <;> omega

/-! ### after impl_FewestMoves -/
def fewR (a b : ByteArray) : Int × Bool := if twoB a b = true then ((dist (numS a) (numS b) : Int), true) else (0, false)
theorem implFew_ev (a b : ByteArray) (ha : a.size ≤ 1048576) (hb : b.size ≤ 1048576) : Ev (fun k => impl_FewestMoves.f k a b) (fewR a b) := by
  unfold fewR
  by_cases c : twoB a b = true
  · obtain ⟨h1, h2, h3⟩ := two_facts c
    obtain ⟨K1, e1⟩ := number_ev h1
    obtain ⟨K2, e2⟩ := number_ev h2
    obtain ⟨l1, l2, l3, l4, l5⟩ := last_facts h1
    obtain ⟨_, m2, m3, m4, _⟩ := last_facts h2
    refine ⟨K1 + K2, fun k hk => ?_⟩
    have e1 := e1 k (by omega)
    have e2 := e2 k (by omega)
    simp only at e1 e2
    have em := apart_eq (numS a) (numS b) (by omega) (by omega)
    unfold numS at em ⊢
    simp only [impl_FewestMoves.f, alike_eq a b ha hb, c, Option.bind_some, if_true, e1, e2, em]
  · exact ⟨0, fun k _ => by simp [impl_FewestMoves.f, alike_eq a b ha hb, c]⟩

/-! ### after impl_lowest -/
def lowR (p q : Nat) : Int × Int := (((p / Nat.gcd p q : Nat) : Int), ((q / Nat.gcd p q : Nat) : Int))
theorem low_l0 (p q : Nat) (hp : p ≤ 1152921504606846976) (hq : q ≤ 1152921504606846976) : ∀ (m n : Nat), 0 < n + m → Nat.gcd n m = Nat.gcd p q → Ev (fun k => impl_lowest.l0 k (p : Int) (q : Int) (n : Int) (m : Int)) (lowR p q) := by
  intro m
  induction m using Nat.strongRecOn with
  | ind m ih =>
    intro n hn hg
    by_cases c : m = 0
    · subst c
      rw [Nat.gcd_zero_right] at hg
      refine Ev.last fun k => ?_
      have e1 : Int.tdiv (p : Int) (n : Int) = ((p / n : Nat) : Int) := rfl
      have e2 : Int.tdiv (q : Int) (n : Int) = ((q / n : Nat) : Int) := rfl
      have b1 := Nat.div_le_self p n
      have b2 := Nat.div_le_self q n
      rw [impl_lowest.l0, if_neg (by omega), if_neg (by omega), e1, e2]
      unfold lowR
      rw [← hg]
      generalize p / n = x at b1 ⊢
      generalize q / n = y at b2 ⊢
      rw [w64 (a := (x : Int)) (by omega) (by omega), w64 (a := (y : Int)) (by omega) (by omega)]
    · have hm := Nat.mod_lt n (show 0 < m by omega)
      refine Ev.next ⟨0, fun k _ => ?_⟩ (ih (n % m) hm m (by omega) ?_)
      · have e : Int.tmod (n : Int) (m : Int) = ((n % m : Nat) : Int) := rfl
        rw [impl_lowest.l0, if_pos (by omega), if_neg (by omega), e]
      · rw [← hg, Nat.gcd_comm n m, Nat.gcd_rec m n, Nat.gcd_comm]
theorem low_ev (p q : Nat) (hp : p ≤ 1152921504606846976) (hq : q ≤ 1152921504606846976) (h0 : 0 < p + q) : Ev (fun k => impl_lowest.f k (p : Int) (q : Int)) (lowR p q) := low_l0 p q hp hq q p h0 rfl

/-! ### after spec_waLow -/
theorem waLow_l0 (p q : Nat) (hp : p ≤ 1152921504606846976) (hq : q ≤ 1152921504606846976) : ∀ (m n : Nat), 0 < n + m → Nat.gcd n m = Nat.gcd p q → Ev (fun k => spec_waLow.l0 k (p : Int) (q : Int) (n : Int) (m : Int)) (lowR p q) := by
  intro m
  induction m using Nat.strongRecOn with
  | ind m ih =>
    intro n hn hg
    by_cases c : m = 0
    · subst c
      rw [Nat.gcd_zero_right] at hg
      refine Ev.last fun k => ?_
      have e1 : Int.tdiv (p : Int) (n : Int) = ((p / n : Nat) : Int) := rfl
      have e2 : Int.tdiv (q : Int) (n : Int) = ((q / n : Nat) : Int) := rfl
      have b1 := Nat.div_le_self p n
      have b2 := Nat.div_le_self q n
      rw [spec_waLow.l0, if_neg (by omega), if_neg (by omega), e1, e2]
      unfold lowR
      rw [← hg]
      generalize p / n = x at b1 ⊢
      generalize q / n = y at b2 ⊢
      rw [w64 (a := (x : Int)) (by omega) (by omega), w64 (a := (y : Int)) (by omega) (by omega)]
    · have hm := Nat.mod_lt n (show 0 < m by omega)
      refine Ev.next ⟨0, fun k _ => ?_⟩ (ih (n % m) hm m (by omega) ?_)
      · have e : Int.tmod (n : Int) (m : Int) = ((n % m : Nat) : Int) := rfl
        rw [spec_waLow.l0, if_pos (by omega), if_neg (by omega), e]
      · rw [← hg, Nat.gcd_comm n m, Nat.gcd_rec m n, Nat.gcd_comm]
theorem waLow_ev (p q : Nat) (hp : p ≤ 1152921504606846976) (hq : q ≤ 1152921504606846976) (h0 : 0 < p + q) : Ev (fun k => spec_waLow.f k (p : Int) (q : Int)) (lowR p q) := waLow_l0 p q hp hq q p h0 rfl

/-! ### after impl_ChanceBefore -/
def chV (n x y : Nat) : Int × Int := if dist n x + dist n y = dist x y then lowR (dist n y) (dist x y) else if dist n x < dist n y then (1, 1) else (0, 1)
def chR (s a b : ByteArray) : Int × Int × Bool := if twoB s a = true ∧ twoB a b = true ∧ ¬ a.toList = b.toList then ((chV (numS s) (numS a) (numS b)).1, (chV (numS s) (numS a) (numS b)).2, true) else (0, 0, false)
theorem implChance_ev (s a b : ByteArray) (hs : s.size ≤ 1048576) (ha : a.size ≤ 1048576) (hb : b.size ≤ 1048576) : Ev (fun k => impl_ChanceBefore.f k s a b) (chR s a b) := by
  unfold chR
  by_cases c : twoB s a = true ∧ twoB a b = true ∧ ¬ a.toList = b.toList
  · rw [if_pos c]
    obtain ⟨c1, c2, c3⟩ := c
    obtain ⟨h1, h2, h3⟩ := two_facts c1
    obtain ⟨_, h4, h5⟩ := two_facts c2
    obtain ⟨K1, e1⟩ := number_ev h1
    obtain ⟨K2, e2⟩ := number_ev h2
    obtain ⟨K3, e3⟩ := number_ev h4
    obtain ⟨l1, l2, l3, l4, l5⟩ := last_facts h1
    obtain ⟨_, m2, m3, _, _⟩ := last_facts h2
    obtain ⟨_, n2, n3, _, _⟩ := last_facts h4
    have hne : ¬ numS a = numS b := fun e => c3 ((numS_inj h2 h4 h5).2 e)
    have d1 := apart_eq (numS a) (numS b) (by omega) (by omega)
    have d2 := apart_eq (numS s) (numS b) (by omega) (by omega)
    have d3 := apart_eq (numS s) (numS a) (by omega) (by omega)
    have hd : 0 < dist (numS a) (numS b) ∧ dist (numS a) (numS b) ≤ 1048575 ∧ dist (numS s) (numS b) ≤ 1048575 ∧ dist (numS s) (numS a) ≤ 1048575 := by
      unfold dist
      refine ⟨?_, ?_, ?_, ?_⟩ <;> split <;> omega
    obtain ⟨K4, e4⟩ := low_ev (dist (numS s) (numS b)) (dist (numS a) (numS b)) (by omega) (by omega) (by omega)
    have hbeq : (a.toList == b.toList) = false := by simpa using c3
    refine ⟨K1 + K2 + K3 + K4 + 1, fun k hk => ?_⟩
    obtain ⟨k, rfl⟩ : ∃ m, k = m + 1 := ⟨k - 1, by omega⟩
    have e1 := e1 k (by omega)
    have e2 := e2 k (by omega)
    have e3 := e3 k (by omega)
    have e4 := e4 k (by omega)
    simp only at e1 e2 e3 e4
    unfold chV
    unfold numS at *
    dsimp only
    rw [impl_ChanceBefore.f, alike_eq s a hs ha, Option.bind_some, c1, if_pos rfl, alike_eq a b ha hb, Option.bind_some, c2, if_pos rfl, hbeq, impl_ChanceBefore.j0, if_neg (by simp), e1, Option.bind_some, e2, Option.bind_some, e3, Option.bind_some, d1, Option.bind_some, d2, Option.bind_some, d3, Option.bind_some]
    generalize dist (grN s.data.toList) (grN a.data.toList) = x at *
    generalize dist (grN s.data.toList) (grN b.data.toList) = y at *
    generalize dist (grN a.data.toList) (grN b.data.toList) = z at *
    rw [w64 (by omega) (by omega)]
    by_cases q1 : x + y = z
    · rw [if_pos (by omega), if_pos q1, e4, Option.bind_some]
    · rw [if_neg (by omega), if_neg q1, Option.bind_some]
      by_cases q2 : x < y
      · rw [if_pos (by omega), if_pos q2]
      · rw [if_neg (by omega), if_neg q2]
  · rw [if_neg c]
    refine ⟨1, fun k hk => ?_⟩
    obtain ⟨k, rfl⟩ : ∃ m, k = m + 1 := ⟨k - 1, by omega⟩
    simp only [impl_ChanceBefore.f, alike_eq s a hs ha, alike_eq a b ha hb, Option.bind_some]
    by_cases c1 : twoB s a = true
    · by_cases c2 : twoB a b = true
      · have c3 : a.toList = b.toList := Classical.byContradiction fun h => c ⟨c1, c2, h⟩
        simp [c1, c2, c3, impl_ChanceBefore.j0]
      · simp [c1, c2, impl_ChanceBefore.j0]
    · simp [c1, impl_ChanceBefore.j0]

/-! ### after impl_apart -/
theorem abs_eq (n m : Nat) (hn : n ≤ 1048575) (hm : m ≤ 1048575) : spec_l1Abs.f (wrap64 ((n : Int) - m)) = some (dist n m : Int) := by
  rw [w64 (by omega) (by omega)]
  unfold spec_l1Abs.f spec_l1Most.f dist
  rw [w64 (by omega) (by omega)]
  split <;> split <;> (rw [Option.bind_some]; congr 1; omega)
theorem dist_comm (n m : Nat) : dist n m = dist m n := by unfold dist; split <;> split <;> omega

/-! ### after spec_ChanceBefore -/
theorem specChance_ev (s a b : ByteArray) : Ev (fun k => spec_ChanceBefore.f k s a b) (chR s a b) := by
  obtain ⟨K0, e0⟩ := riTwo_ev s a
  obtain ⟨K9, e9⟩ := riTwo_ev s b
  unfold chR
  by_cases c : twoB s a = true ∧ twoB a b = true ∧ ¬ a.toList = b.toList
  · rw [if_pos c]
    obtain ⟨c1, c2, c3⟩ := c
    obtain ⟨h1, h2, h3⟩ := two_facts c1
    obtain ⟨_, h4, h5⟩ := two_facts c2
    have c4 : twoB s b = true := two_of h1 h4 (by omega)
    obtain ⟨K1, e1⟩ := riNumber_ev h1
    obtain ⟨K2, e2⟩ := riNumber_ev h2
    obtain ⟨K3, e3⟩ := riNumber_ev h4
    obtain ⟨l1, l2, l3, l4, l5⟩ := last_facts h1
    obtain ⟨_, m2, m3, _, _⟩ := last_facts h2
    obtain ⟨_, n2, n3, _, _⟩ := last_facts h4
    have hne : ¬ numS a = numS b := fun e => c3 ((numS_inj h2 h4 h5).2 e)
    have d1 := abs_eq (numS b) (numS s) (by omega) (by omega)
    have d2 := abs_eq (numS b) (numS a) (by omega) (by omega)
    have hd : 0 < dist (numS b) (numS a) ∧ dist (numS b) (numS a) ≤ 1048575 ∧ dist (numS b) (numS s) ≤ 1048575 := by
      unfold dist
      refine ⟨?_, ?_, ?_⟩ <;> split <;> omega
    obtain ⟨K4, e4⟩ := waLow_ev (dist (numS b) (numS s)) (dist (numS b) (numS a)) (by omega) (by omega) (by omega)
    have hbeq : (a.toList == b.toList) = false := by simpa using c3
    refine ⟨K0 + K9 + K1 + K2 + K3 + K4 + 3, fun k hk => ?_⟩
    obtain ⟨k, rfl⟩ : ∃ m, k = m + 3 := ⟨k - 3, by omega⟩
    have e0 := e0 (k + 3) (by omega)
    have e9 := e9 (k + 3) (by omega)
    have e1 := e1 (k + 2) (by omega)
    have e2 := e2 (k + 2) (by omega)
    have e3 := e3 (k + 2) (by omega)
    have e4 := e4 k (by omega)
    simp only at e0 e9 e1 e2 e3 e4
    unfold chV
    rw [dist_comm (numS s) (numS b), dist_comm (numS a) (numS b)]
    unfold numS at *
    simp only [spec_ChanceBefore.f, e0, e9, c1, c4, hbeq, Option.bind_some, if_true, spec_ChanceBefore.j0, Bool.false_eq_true, if_false, e1, e2, e3]
    generalize grN s.data.toList = n at *
    generalize grN a.data.toList = x at *
    generalize grN b.data.toList = y at *
    have g1 : ∀ d : Nat, 0 < d → lowR d d = (1, 1) := fun d hd => by unfold lowR; rw [Nat.gcd_self, Nat.div_self hd]; rfl
    have g0 : ∀ d : Nat, 0 < d → lowR 0 d = (0, 1) := fun d hd => by unfold lowR; rw [Nat.gcd_zero_left, Nat.div_self hd, Nat.zero_div]; rfl
    have hj2f : ∀ t : Bool, t = false → spec_ChanceBefore.j2 (k + 1) (n : Int) (x : Int) (y : Int) t = some ((lowR (dist y n) (dist y x)).1, (lowR (dist y n) (dist y x)).2, true) := fun t ht => by
      subst ht
      simp only [spec_ChanceBefore.j2, Bool.false_eq_true, if_false, d1, d2, Option.bind_some, e4]
    have hj2t : ∀ t : Bool, t = true → spec_ChanceBefore.j2 (k + 1) (n : Int) (x : Int) (y : Int) t = some (0, 1, true) := fun t ht => by
      subst ht; simp [spec_ChanceBefore.j2]
    have hj1t : ∀ t : Bool, t = true → spec_ChanceBefore.j1 (k + 2) (n : Int) (x : Int) (y : Int) t = some (1, 1, true) := fun t ht => by
      subst ht; simp [spec_ChanceBefore.j1]
    have hj1f : ∀ t : Bool, t = false → spec_ChanceBefore.j1 (k + 2) (n : Int) (x : Int) (y : Int) t = if (n ≤ y ∧ y < x) ∨ (n ≥ y ∧ y > x) then some (0, 1, true) else some ((lowR (dist y n) (dist y x)).1, (lowR (dist y n) (dist y x)).2, true) := fun t ht => by
      subst ht
      simp only [spec_ChanceBefore.j1, Bool.false_eq_true, if_false]
      by_cases q1 : n ≤ y
      · by_cases q2 : y < x
        · rw [if_pos (by omega), if_pos (by omega), if_pos (.inl ⟨q1, q2⟩), hj2t _ rfl]
        · by_cases q3 : n ≥ y
          · by_cases q4 : y > x
            · rw [if_pos (by omega), if_neg (by omega), if_pos (by omega), if_pos (.inr ⟨q3, q4⟩), hj2t _ (decide_eq_true (by omega))]
            · omega
          · rw [if_pos (by omega), if_neg (by omega), if_neg (by omega), if_neg (by omega), hj2f _ rfl]
      · by_cases q4 : y > x
        · rw [if_neg (by omega), if_pos (by omega), if_pos (.inr ⟨by omega, q4⟩), hj2t _ (decide_eq_true (by omega))]
        · rw [if_neg (by omega), if_pos (by omega), if_neg (by omega), hj2f _ (decide_eq_false (by omega))]
    have key : (if (n ≤ x ∧ x < y) ∨ (n ≥ x ∧ x > y) then some ((1 : Int), (1 : Int), true) else if (n ≤ y ∧ y < x) ∨ (n ≥ y ∧ y > x) then some (0, 1, true) else some ((lowR (dist y n) (dist y x)).1, (lowR (dist y n) (dist y x)).2, true)) = some ((if dist n x + dist y n = dist y x then lowR (dist y n) (dist y x) else if dist n x < dist y n then (1, 1) else (0, 1)).1, (if dist n x + dist y n = dist y x then lowR (dist y n) (dist y x) else if dist n x < dist y n then (1, 1) else (0, 1)).2, true) := by
      by_cases q1 : (n ≤ x ∧ x < y) ∨ (n ≥ x ∧ x > y)
      · rw [if_pos q1]
        by_cases q2 : n = x
        · subst q2
          have : dist n n = 0 := by simp [dist]
          rw [if_pos (by omega), g1 _ (by omega)]
        · have d3 : ¬ dist n x + dist y n = dist y x ∧ dist n x < dist y n := by unfold dist; (repeat' split) <;> omega
          rw [if_neg d3.1, if_pos d3.2]
      · rw [if_neg q1]
        by_cases q2 : (n ≤ y ∧ y < x) ∨ (n ≥ y ∧ y > x)
        · rw [if_pos q2]
          by_cases q3 : n = y
          · subst q3
            have h0 : dist n n = 0 := by simp [dist]
            have h1 := dist_comm n x
            rw [if_pos (by omega), h0, g0 _ (by omega)]
          · have d3 : ¬ dist n x + dist y n = dist y x ∧ ¬ dist n x < dist y n := by unfold dist; (repeat' split) <;> omega
            rw [if_neg d3.1, if_neg d3.2]
        · have d3 : dist n x + dist y n = dist y x := by unfold dist; (repeat' split) <;> omega
          rw [if_neg q2, if_pos d3]
    rw [← key]
    by_cases q1 : n ≤ x
    · by_cases q2 : x < y
      · rw [if_pos (by omega), if_pos (by omega), if_pos (.inl ⟨q1, q2⟩), hj1t _ rfl]
      · by_cases q3 : n ≥ x
        · by_cases q4 : x > y
          · rw [if_pos (by omega), if_neg (by omega), if_pos (by omega), if_pos (.inr ⟨q3, q4⟩), hj1t _ (decide_eq_true (by omega))]
          · omega
        · rw [if_pos (by omega), if_neg (by omega), if_neg (by omega), hj1f _ rfl, if_neg (show ¬ ((n ≤ x ∧ x < y) ∨ (n ≥ x ∧ x > y)) by omega)]
    · by_cases q4 : x > y
      · rw [if_neg (by omega), if_pos (by omega), if_pos (.inr ⟨by omega, q4⟩), hj1t _ (decide_eq_true (by omega))]
      · rw [if_neg (by omega), if_pos (by omega), hj1f _ (decide_eq_false (by omega)), if_neg (show ¬ ((n ≤ x ∧ x < y) ∨ (n ≥ x ∧ x > y)) by omega)]
  · rw [if_neg c]
    refine ⟨K0 + K9 + 1, fun k hk => ?_⟩
    obtain ⟨k, rfl⟩ : ∃ m, k = m + 1 := ⟨k - 1, by omega⟩
    have e0 := e0 (k + 1) (by omega)
    have e9 := e9 (k + 1) (by omega)
    simp only at e0 e9
    simp only [spec_ChanceBefore.f, e0, e9, Option.bind_some]
    by_cases c1 : twoB s a = true
    · by_cases c2 : twoB s b = true
      · obtain ⟨h1, h2, h3⟩ := two_facts c1
        obtain ⟨_, h4, h5⟩ := two_facts c2
        have c3 : a.toList = b.toList := Classical.byContradiction fun h => c ⟨c1, two_of h2 h4 (by omega), h⟩
        simp [c1, c2, c3, spec_ChanceBefore.j0]
      · simp [c1, c2, spec_ChanceBefore.j0]
    · simp [c1, spec_ChanceBefore.j0]

/-! ### after impl_spread -/
def gF (e l : Nat) (f : Nat → Nat) (n : Nat) : Nat := if n = 0 ∨ n = l then f n * e else f n
/-- One move more. -/
def stepF (e l : Nat) (f : Nat → Nat) (y : Nat) : Nat := (if y < l then gF e l f (y + 1) else 0) + (if 0 < y then gF e l f (y - 1) else 0)
/-- How many walks of so many moves lead from a number to another one; at the ends a move counts e times. -/
def WF (e l x : Nat) : Nat → Nat → Nat
  | 0 => fun y => if y = x then 1 else 0
  | m + 1 => stepF e l (WF e l x m)
def sumF (f : Nat → Nat) : Nat → Nat
  | 0 => 0
  | n + 1 => sumF f n + f n
theorem sumF_ge (f : Nat → Nat) : ∀ (n y : Nat), y < n → f y ≤ sumF f n
  | n + 1, y, h => by
    rw [sumF]
    by_cases c : y = n
    · subst c; omega
    · have := sumF_ge f n y (by omega); omega
theorem sumF_add (f g : Nat → Nat) : ∀ n, sumF (fun y => f y + g y) n = sumF f n + sumF g n
  | 0 => rfl
  | n + 1 => by rw [sumF, sumF, sumF, sumF_add f g n]; omega
theorem sumF_up (l : Nat) (g : Nat → Nat) : ∀ n, n ≤ l → sumF (fun y => if y < l then g (y + 1) else 0) n + g 0 = sumF g (n + 1)
  | 0, _ => by simp [sumF]
  | n + 1, h => by
    have ih := sumF_up l g n (by omega)
    rw [sumF, sumF, if_pos (by omega)]; omega
theorem sumF_down (g : Nat → Nat) : ∀ n, sumF (fun y => if 0 < y then g (y - 1) else 0) (n + 1) = sumF g n
  | 0 => by simp [sumF]
  | n + 1 => by rw [sumF, sumF_down g n, sumF, if_pos (by omega)]; rfl
theorem sumF_g (e l : Nat) (f : Nat → Nat) (he : e = 1 ∨ e = 2) (hl : 0 < l) : ∀ n, sumF (gF e l f) n = sumF f n + (if 0 < n then (e - 1) * f 0 else 0) + (if l < n then (e - 1) * f l else 0)
  | 0 => by simp [sumF]
  | n + 1 => by
    have ih := sumF_g e l f he hl n
    rw [sumF, sumF, ih]
    unfold gF
    rcases he with rfl | rfl
    · by_cases c : n = 0 ∨ n = l
      · rw [if_pos c]; simp
      · rw [if_neg c]; simp
    · simp only [Nat.reduceSub, Nat.one_mul]
      by_cases c : n = 0
      · subst c
        have h1 : ¬ l < 1 := by omega
        simp [h1, sumF]; omega
      · have h0 : 0 < n := by omega
        have h1 : 0 < n + 1 := by omega
        by_cases c2 : n = l
        · subst c2
          simp [c, h0]; omega
        · by_cases c3 : l < n
          · have h2 : l < n + 1 := by omega
            simp [c, c2, c3, h0, h2]; omega
          · have h2 : ¬ l < n + 1 := by omega
            simp [c, c2, c3, h0, h2]; omega
theorem sumF_step (e l : Nat) (f : Nat → Nat) (he : e = 1 ∨ e = 2) (hl : 0 < l) : sumF (stepF e l f) (l + 1) ≤ 2 * sumF f (l + 1) := by
  have h1 := sumF_add (fun y => if y < l then gF e l f (y + 1) else 0) (fun y => if 0 < y then gF e l f (y - 1) else 0) (l + 1)
  have h2 := sumF_up l (gF e l f) l (Nat.le_refl _)
  have h3 := sumF_down (gF e l f) l
  have h4 := sumF_g e l f he hl (l + 1)
  have h5 : sumF (gF e l f) (l + 1) = sumF (gF e l f) l + gF e l f l := rfl
  have h6 : sumF (fun y => if y < l then gF e l f (y + 1) else 0) (l + 1) = sumF (fun y => if y < l then gF e l f (y + 1) else 0) l := by rw [sumF, if_neg (by omega)]; rfl
  have e0 : gF e l f 0 = f 0 * e := by unfold gF; rw [if_pos (.inl rfl)]
  have el : gF e l f l = f l * e := by unfold gF; rw [if_pos (.inr rfl)]
  rw [if_pos (by omega), if_pos (by omega)] at h4
  show sumF (fun y => (if y < l then gF e l f (y + 1) else 0) + (if 0 < y then gF e l f (y - 1) else 0)) (l + 1) ≤ _
  rcases he with rfl | rfl <;> omega
theorem sumF_zero (x : Nat) : ∀ n, sumF (fun y => if y = x then 1 else 0) n ≤ 1 ∧ (n ≤ x → sumF (fun y => if y = x then 1 else 0) n = 0)
  | 0 => ⟨by simp [sumF], fun _ => rfl⟩
  | n + 1 => by
    obtain ⟨h1, h2⟩ := sumF_zero x n
    rw [sumF]
    by_cases c : n = x
    · rw [if_pos c, h2 (by omega)]; exact ⟨by omega, fun h => by omega⟩
    · rw [if_neg c]; exact ⟨by omega, fun h => h2 (by omega)⟩
theorem sumF_W (e l x : Nat) (he : e = 1 ∨ e = 2) (hl : 0 < l) : ∀ m, sumF (WF e l x m) (l + 1) ≤ 2 ^ m
  | 0 => (sumF_zero x (l + 1)).1
  | m + 1 => by
    have h1 := sumF_W e l x he hl m
    have h2 := sumF_step e l (WF e l x m) he hl
    rw [Nat.pow_succ]
    show sumF (stepF e l (WF e l x m)) (l + 1) ≤ _
    omega
theorem WF_le (e l x m y : Nat) (he : e = 1 ∨ e = 2) (hl : 0 < l) (hy : y ≤ l) : WF e l x m y ≤ 2 ^ m :=
  Nat.le_trans (sumF_ge _ _ _ (by omega)) (sumF_W e l x he hl m)
theorem WF_le40 (e l x m y : Nat) (he : e = 1 ∨ e = 2) (hl : 0 < l) (hy : y ≤ l) (hm : m ≤ 40) : WF e l x m y ≤ 1099511627776 :=
  Nat.le_trans (WF_le e l x m y he hl hy) (Nat.le_trans (pow2_le hm) (by decide))
def rowL (l : Nat) (f : Nat → Nat) : List Int := (List.range (l + 1)).map fun y => (f y : Int)
theorem rowL_len (l : Nat) (f : Nat → Nat) : (rowL l f).length = l + 1 := by simp [rowL]
theorem rowL_rd (l : Nat) (f : Nat → Nat) (y : Nat) (h : y ≤ l) : rd (rowL l f) (y : Int) = (f y : Int) := by
  have : y < l + 1 := by omega
  simp [rd, rowL, this]

/-! ### after impl_spread -/
theorem lrd {a b : List Int} (hl : a.length = b.length) (h : ∀ i : Nat, i < a.length → rd a (i : Int) = rd b (i : Int)) : a = b := by
  apply List.ext_getElem hl
  intro i h1 h2
  have := h i h1
  simpa [rd, h1, h2] using this
theorem srd (a : List Int) (j i : Nat) (v : Int) (hj : j < a.length) : rd (a.set j v) (i : Int) = if i = j then v else rd a (i : Int) := by
  by_cases c : i = j
  · subst c; simp [rd, hj]
  · rw [if_neg c]
    simp [rd, List.getElem?_set_ne (show j ≠ i from fun e => c e.symm)]

/-! ### after impl_spread -/
theorem rowL_congr (l : Nat) (f g : Nat → Nat) (h : ∀ y, y ≤ l → f y = g y) : rowL l f = rowL l g := by
  unfold rowL
  apply List.map_congr_left
  intro y hy
  rw [h y (by have := List.mem_range.1 hy; omega)]
theorem rowL_set (l : Nat) (f : Nat → Nat) (j v : Nat) (h : j ≤ l) : (rowL l f).set j (v : Int) = rowL l (fun y => if y = j then v else f y) :=
  lrd (by rw [List.length_set, rowL_len, rowL_len]) (fun i hi => by
    rw [List.length_set, rowL_len] at hi
    rw [srd _ _ _ _ (by rw [rowL_len]; omega), rowL_rd _ _ _ (by omega), rowL_rd _ _ _ (by omega)]
    split <;> rfl)
/-- What has come in when the first i numbers are through. -/
def partF (e l : Nat) (f : Nat → Nat) (i y : Nat) : Nat := (if y < l ∧ y + 1 < i then gF e l f (y + 1) else 0) + (if 0 < y ∧ y - 1 < i then gF e l f (y - 1) else 0)
def midF (e l : Nat) (f : Nat → Nat) (i y : Nat) : Nat := partF e l f i y + (if y + 1 = i then gF e l f i else 0)
theorem part_zero (e l : Nat) (f : Nat → Nat) : rowL l (partF e l f 0) = List.replicate (l + 1) 0 :=
  lrd (by rw [rowL_len, List.length_replicate]) (fun i hi => by
    rw [rowL_len] at hi
    rw [rowL_rd _ _ _ (by omega)]
    simp [partF, rd, hi])
theorem part_end (e l : Nat) (f : Nat → Nat) : rowL l (partF e l f (l + 1)) = rowL l (stepF e l f) :=
  rowL_congr l _ _ (fun y hy => by
    unfold partF stepF
    by_cases c1 : y < l
    · by_cases c2 : 0 < y
      · rw [if_pos ⟨c1, by omega⟩, if_pos ⟨c2, by omega⟩, if_pos c1, if_pos c2]
      · rw [if_pos ⟨c1, by omega⟩, if_neg (by omega), if_pos c1, if_neg c2]
    · by_cases c2 : 0 < y
      · rw [if_neg (by omega), if_pos ⟨c2, by omega⟩, if_neg c1, if_pos c2]
      · rw [if_neg (by omega), if_neg (by omega), if_neg c1, if_neg c2])
theorem part_lo (e l : Nat) (f : Nat → Nat) (i : Nat) (h0 : 0 < i) (h : i ≤ l) : (rowL l (partF e l f i)).set (i - 1) ((partF e l f i (i - 1) + gF e l f i : Nat) : Int) = rowL l (midF e l f i) := by
  rw [rowL_set l _ _ _ (by omega)]
  refine rowL_congr l _ _ (fun y hy => ?_)
  unfold midF
  by_cases c : y = i - 1
  · subst c; rw [if_pos rfl, if_pos (by omega)]
  · rw [if_neg c, if_neg (by omega)]; rfl
theorem mid_first (e l : Nat) (f : Nat → Nat) : rowL l (partF e l f 0) = rowL l (midF e l f 0) :=
  rowL_congr l _ _ (fun y hy => by unfold midF; rw [if_neg (by omega)]; rfl)
theorem mid_part (e l : Nat) (f : Nat → Nat) (i y : Nat) (h : i ≤ l) (hy : y ≤ l) : partF e l f (i + 1) y = midF e l f i y + if y = i + 1 then gF e l f i else 0 := by
  unfold midF partF
  by_cases c1 : y + 1 = i
  · subst c1
    rw [if_neg (show ¬ (y < l ∧ y + 1 < y + 1) by omega), if_pos (show y < l ∧ y + 1 < y + 1 + 1 by omega), if_pos rfl, if_neg (show ¬ y = y + 1 + 1 by omega)]
    by_cases c2 : 0 < y
    · rw [if_pos (show 0 < y ∧ y - 1 < y + 1 + 1 by omega), if_pos (show 0 < y ∧ y - 1 < y + 1 by omega)]; first | done | omega
    · rw [if_neg (show ¬ (0 < y ∧ y - 1 < y + 1 + 1) by omega), if_neg (show ¬ (0 < y ∧ y - 1 < y + 1) by omega)]; first | done | omega
  · rw [if_neg c1]
    by_cases c2 : y = i + 1
    · subst c2
      rw [if_pos rfl, if_neg (show ¬ (i + 1 < l ∧ i + 1 + 1 < i + 1) by omega), if_neg (show ¬ (i + 1 < l ∧ i + 1 + 1 < i) by omega), if_pos (show 0 < i + 1 ∧ i + 1 - 1 < i + 1 by omega), if_neg (show ¬ (0 < i + 1 ∧ i + 1 - 1 < i) by omega)]
      show 0 + gF e l f i = 0 + 0 + 0 + gF e l f i
      omega
    · rw [if_neg c2]
      by_cases c3 : y < l ∧ y + 1 < i
      · rw [if_pos c3, if_pos (show y < l ∧ y + 1 < i + 1 by omega)]
        by_cases c4 : 0 < y ∧ y - 1 < i
        · rw [if_pos c4, if_pos (show 0 < y ∧ y - 1 < i + 1 by omega)]; first | done | omega
        · rw [if_neg c4, if_neg (show ¬ (0 < y ∧ y - 1 < i + 1) by omega)]; first | done | omega
      · rw [if_neg c3, if_neg (show ¬ (y < l ∧ y + 1 < i + 1) by omega)]
        by_cases c4 : 0 < y ∧ y - 1 < i
        · rw [if_pos c4, if_pos (show 0 < y ∧ y - 1 < i + 1 by omega)]; first | done | omega
        · rw [if_neg c4, if_neg (show ¬ (0 < y ∧ y - 1 < i + 1) by omega)]; first | done | omega
theorem part_hi (e l : Nat) (f : Nat → Nat) (i : Nat) (h : i < l) : (rowL l (midF e l f i)).set (i + 1) ((midF e l f i (i + 1) + gF e l f i : Nat) : Int) = rowL l (partF e l f (i + 1)) := by
  rw [rowL_set l _ _ _ (by omega)]
  refine rowL_congr l _ _ (fun y hy => ?_)
  rw [mid_part e l f i y (by omega) hy]
  by_cases c : y = i + 1
  · subst c; rw [if_pos rfl, if_pos rfl]
  · rw [if_neg c, if_neg c]; rfl
theorem part_last (e l : Nat) (f : Nat → Nat) : rowL l (midF e l f l) = rowL l (partF e l f (l + 1)) :=
  rowL_congr l _ _ (fun y hy => by rw [mid_part e l f l y (by omega) hy, if_neg (by omega)]; rfl)
theorem gF_le (e l : Nat) (f : Nat → Nat) (he : e = 1 ∨ e = 2) (B n : Nat) (h : f n ≤ B) : gF e l f n ≤ 2 * B := by
  unfold gF; split <;> rcases he with rfl | rfl <;> omega
theorem part_le (e l : Nat) (f : Nat → Nat) (he : e = 1 ∨ e = 2) (B : Nat) (h : ∀ y, y ≤ l → f y ≤ B) (i y : Nat) (hi : i ≤ l) (hy : y ≤ l) : partF e l f i y ≤ 4 * B ∧ midF e l f i y ≤ 6 * B := by
  have h0 := gF_le e l f he B i (h i hi)
  have hp : partF e l f i y ≤ 4 * B := by
    unfold partF
    have h1 : (if y < l ∧ y + 1 < i then gF e l f (y + 1) else 0) ≤ 2 * B := by
      split
      · exact gF_le e l f he B _ (h _ (by omega))
      · omega
    have h2 : (if 0 < y ∧ y - 1 < i then gF e l f (y - 1) else 0) ≤ 2 * B := by
      split
      · exact gF_le e l f he B _ (h _ (by omega))
      · omega
    omega
  refine ⟨hp, ?_⟩
  unfold midF
  split <;> omega
theorem spread_j3 (e l : Nat) (f : Nat → Nat) (he : e = 1 ∨ e = 2) (hl : l ≤ 1048575) (hf : ∀ y, y ≤ l → f y ≤ 1099511627776) (i : Nat) (hi : i ≤ l) (mv t : Int) (r : List Int)
    (hk : Ev (fun k => impl_spread.l1 k (e : Int) (l : Int) (rowL l (partF e l f (i + 1))) mv t (rowL l f) ((l + 1 : Nat) : Int) ((i + 1 : Nat) : Int)) r) :
    Ev (fun k => impl_spread.j3 k (e : Int) (l : Int) (rowL l (partF e l f i)) (i : Int) (gF e l f i : Int) mv t (rowL l f) ((l + 1 : Nat) : Int) (i : Int)) r := by
  have b1 := fun y (hy : y ≤ l) => part_le e l f he 1099511627776 hf i y hi hy
  have b0 := gF_le e l f he 1099511627776 i (hf i hi)
  have ew : wrap64 ((i : Int) + 1) = ((i + 1 : Nat) : Int) := by rw [w64 (by omega) (by omega)]; omega
  refine Ev.next ⟨0, fun k _ => ?_⟩ hk
  rw [impl_spread.j3, rowL_len, ew]
  by_cases c0 : 0 < i
  · have e1 : wrap64 ((i : Int) - 1) = ((i - 1 : Nat) : Int) := by rw [w64 (by omega) (by omega)]; omega
    have b2 := (b1 (i - 1) (by omega)).1
    rw [if_pos (by omega), e1, if_pos (by omega), if_pos (by omega), Option.bind_some, rowL_rd _ _ _ (by omega), w64 (a := (partF e l f i (i - 1) : Int) + (gF e l f i : Int)) (by omega) (by omega), Int.toNat_natCast, ← Int.natCast_add, part_lo e l f i c0 hi]
    by_cases c1 : i < l
    · have b3 := (b1 (i + 1) (by omega)).2
      rw [if_pos (by omega), if_pos (by omega), if_pos (by omega), rowL_rd _ _ _ (by omega), w64 (a := (midF e l f i (i + 1) : Int) + (gF e l f i : Int)) (by omega) (by omega), Int.toNat_natCast, ← Int.natCast_add, part_hi e l f i c1]
    · obtain rfl : i = l := by omega
      rw [if_neg (by omega), part_last]
  · obtain rfl : i = 0 := by omega
    rw [if_neg (by omega), mid_first]
    by_cases c1 : 0 < l
    · have b3 := (b1 (0 + 1) (by omega)).2
      rw [if_pos (by omega), if_pos (by omega), if_pos (by omega), rowL_rd _ _ _ (by omega), w64 (a := (midF e l f 0 (0 + 1) : Int) + (gF e l f 0 : Int)) (by omega) (by omega), Int.toNat_natCast, ← Int.natCast_add, part_hi e l f 0 c1]
    · obtain rfl : l = 0 := by omega
      rw [if_neg (by omega), part_last]
theorem spread_l1 (e l : Nat) (f : Nat → Nat) (he : e = 1 ∨ e = 2) (hl : l ≤ 1048575) (hf : ∀ y, y ≤ l → f y ≤ 1099511627776) (mv t : Int) (r : List Int)
    (hk : Ev (fun k => impl_spread.l0 k (e : Int) (l : Int) (rowL l (stepF e l f)) mv (wrap64 (t + 1))) r) : ∀ (d i : Nat), i + d = l + 1 →
    Ev (fun k => impl_spread.l1 k (e : Int) (l : Int) (rowL l (partF e l f i)) mv t (rowL l f) ((l + 1 : Nat) : Int) (i : Int)) r := by
  intro d
  induction d with
  | zero =>
    intro i hi
    obtain rfl : i = l + 1 := by omega
    refine Ev.next ⟨0, fun k _ => ?_⟩ hk
    rw [impl_spread.l1, if_neg (by omega), part_end]
  | succ d ih =>
    intro i hi
    have h3 := spread_j3 e l f he hl hf i (by omega) mv t r (ih (i + 1) (by omega))
    have b0 := gF_le e l f he 1099511627776 i (hf i (by omega))
    have h2t : (i = 0 ∨ i = l) → Ev (fun k => impl_spread.j2 k (e : Int) (l : Int) (rowL l (partF e l f i)) (i : Int) (f i : Int) mv t (rowL l f) ((l + 1 : Nat) : Int) (i : Int) true) r := fun hc => by
      refine Ev.next ⟨0, fun k _ => ?_⟩ h3
      have hg : (f i : Int) * (e : Int) = (gF e l f i : Int) := by unfold gF; rw [if_pos hc, Int.natCast_mul]
      rw [impl_spread.j2, if_pos rfl, hg, w64 (by omega) (by omega)]
    have h2f : ¬ (i = 0 ∨ i = l) → Ev (fun k => impl_spread.j2 k (e : Int) (l : Int) (rowL l (partF e l f i)) (i : Int) (f i : Int) mv t (rowL l f) ((l + 1 : Nat) : Int) (i : Int) false) r := fun hc => by
      refine Ev.next ⟨0, fun k _ => ?_⟩ h3
      have hg : (f i : Int) = (gF e l f i : Int) := by unfold gF; rw [if_neg hc]
      rw [impl_spread.j2, if_neg (by simp), hg]
    by_cases c0 : i = 0
    · subst c0
      refine Ev.next ⟨0, fun k _ => ?_⟩ (h2t (.inl rfl))
      rw [impl_spread.l1, rowL_len, if_pos (by omega), if_pos (by omega), if_pos (by omega), if_pos (show ((0 : Nat) : Int) = 0 from rfl), rowL_rd _ _ _ (by omega)]
    · by_cases c1 : i = l
      · refine Ev.next ⟨0, fun k _ => ?_⟩ (h2t (.inr c1))
        have hb : ((i : Int) == (l : Int)) = true := by rw [beq_iff_eq]; omega
        rw [impl_spread.l1, rowL_len, if_pos (by omega), if_pos (by omega), if_pos (by omega), if_neg (by omega), rowL_rd _ _ _ (by omega), hb]
      · refine Ev.next ⟨0, fun k _ => ?_⟩ (h2f (by omega))
        have hb : ((i : Int) == (l : Int)) = false := by rw [beq_eq_false_iff_ne]; omega
        rw [impl_spread.l1, rowL_len, if_pos (by omega), if_pos (by omega), if_pos (by omega), if_neg (by omega), rowL_rd _ _ _ (by omega), hb]
theorem spread_l0 (e l x : Nat) (he : e = 1 ∨ e = 2) (h0 : 0 < l) (hl : l ≤ 1048575) (m : Nat) (hm : m ≤ 40) : ∀ (d t : Nat), t + d = m →
    Ev (fun k => impl_spread.l0 k (e : Int) (l : Int) (rowL l (WF e l x t)) (m : Int) (t : Int)) (rowL l (WF e l x m)) := by
  intro d
  induction d with
  | zero =>
    intro t ht
    obtain rfl : t = m := by omega
    exact Ev.last fun k => by rw [impl_spread.l0, if_neg (by omega)]
  | succ d ih =>
    intro t ht
    have ew : wrap64 ((t : Int) + 1) = ((t + 1 : Nat) : Int) := by rw [w64 (by omega) (by omega)]; omega
    have el : wrap64 ((l : Int) + 1) = ((l + 1 : Nat) : Int) := by rw [w64 (by omega) (by omega)]; omega
    have hk := spread_l1 e l (WF e l x t) he hl (fun y hy => WF_le40 e l x t y he h0 hy (by omega)) (m : Int) (t : Int) _ (by rw [ew]; exact ih (t + 1) (by omega)) (l + 1) 0 (by omega)
    refine Ev.next ⟨0, fun k _ => ?_⟩ hk
    rw [impl_spread.l0, if_pos (by omega), el, if_pos (by omega), if_pos (by omega), Int.toNat_natCast, rowL_len, part_zero]
    rfl
theorem start_row (l x : Nat) (h : x ≤ l) (e : Nat) : (List.replicate (l + 1) (0 : Int)).set x 1 = rowL l (WF e l x 0) :=
  lrd (by rw [List.length_set, List.length_replicate, rowL_len]) (fun i hi => by
    rw [List.length_set, List.length_replicate] at hi
    rw [srd _ _ _ _ (by rw [List.length_replicate]; omega), rowL_rd _ _ _ (by omega)]
    show _ = ((if i = x then 1 else 0 : Nat) : Int)
    by_cases c : i = x
    · rw [if_pos c, if_pos c]; rfl
    · rw [if_neg c, if_neg c]; simp [rd, hi])
theorem spread_ev {a : ByteArray} (h : stateB a = true) (e m : Nat) (he : e = 1 ∨ e = 2) (hm : m ≤ 40) : Ev (fun k => impl_spread.f k a (m : Int) (e : Int)) (rowL (lastS a) (WF e (lastS a) (numS a) m)) := by
  obtain ⟨l1, l2, l3, l4, l5⟩ := last_facts h
  obtain ⟨K1, e1⟩ := number_ev h
  obtain ⟨K2, e2⟩ := spread_l0 e (lastS a) (numS a) he (by omega) l2 m hm m 0 (by omega)
  refine ⟨K1 + K2, fun k hk => ?_⟩
  have e1 := e1 k (by omega)
  have e2 := e2 k (by omega)
  simp only at e1 e2
  have en : (grN a.data.toList : Int) = (numS a : Int) := rfl
  rw [en] at e1
  have el : wrap64 ((lastS a : Int) + 1) = ((lastS a + 1 : Nat) : Int) := by rw [w64 (by omega) (by omega)]; omega
  unfold impl_spread.f
  dsimp only
  rw [l5, el, if_pos (by omega), if_pos (by omega), Option.bind_some, e1, Option.bind_some, if_pos (by omega), List.length_replicate, Int.toNat_natCast, if_pos (by omega), Int.toNat_natCast, start_row _ _ l3 e]
  exact e2

/-! ### after impl_state -/
/-- The state of so many rings with a number. -/
def stB (L n : Nat) : ByteArray := ⟨(grS L n).toArray⟩
theorem stB_list (L n : Nat) : (stB L n).data.toList = grS L n := rfl
theorem stB_size (L n : Nat) : (stB L n).size = L := by
  have := Lib.size_eq (stB L n)
  rw [this, stB_list, grS_length]
theorem stB_state (L n : Nat) (h1 : 1 ≤ L) (h : L ≤ 20) : stateB (stB L n) = true := by
  unfold stateB
  rw [stB_size, stB_list, grS_all, inB_of (by omega) (by omega)]; rfl
theorem stB_num (L n : Nat) (h : n < 2 ^ L) : numS (stB L n) = n := by unfold numS; rw [stB_list, grN_grS L n h]
/-- Ring i of the state with number n. -/
def bitB (n i : Nat) : UInt8 := if (n / 2 ^ i + n / 2 ^ i / 2) % 2 = 1 then 49 else 48
theorem grS_at : ∀ (L n i : Nat) (h : i < (grS L n).length), (grS L n)[i] = bitB n i
  | 0, n, i, h => by rw [grS_length] at h; omega
  | L + 1, n, 0, h => by simp [grS, bitB]
  | L + 1, n, i + 1, h => by
    have h' : i < (grS L (n / 2)).length := by rw [grS_length] at h ⊢; omega
    have ih := grS_at L (n / 2) i h'
    have e : n / 2 / 2 ^ i = n / 2 ^ (i + 1) := by rw [Nat.div_div_eq_div_mul, Nat.pow_succ, Nat.mul_comm 2]
    unfold bitB at ih ⊢
    rw [e] at ih
    rw [← ih]
    simp [grS]
theorem shr_nat (n i : Nat) (h : i ≤ 60) : shr .i64 (n : Int) (i : Int) = ((n / 2 ^ i : Nat) : Int) := by
  have hm : min ((i : Int).toNat) IntKind.i64.bits = i := by
    rw [Int.toNat_natCast]; exact Nat.min_eq_left (Nat.le_trans h (by decide))
  have hs : shr .i64 (n : Int) (i : Int) = (n : Int) / 2 ^ min ((i : Int).toNat) IntKind.i64.bits := rfl
  rw [hs, hm, Int.natCast_ediv, Int.natCast_pow]; rfl
theorem and_one (n : Nat) (h : n < 4611686018427387904) : Go.bits .and .i64 (n : Int) 1 = ((n % 2 : Nat) : Int) := by
  have ha' : n % 2 ^ IntKind.i64.bits = n := Nat.mod_eq_of_lt (Nat.lt_of_lt_of_le h (by decide))
  have e1 : (1 : Int) = ((1 : Nat) : Int) := rfl
  rw [e1]
  simp only [Go.bits, BitVec.ofInt_natCast, BitVec.toNat_and, BitVec.toNat_ofNat, ha']
  have e2 : n &&& (1 % 2 ^ IntKind.i64.bits) = n % 2 := by
    rw [show 1 % 2 ^ IntKind.i64.bits = 1 by decide, Nat.and_one_is_mod]
  rw [e2, i64_w, w64 (by omega) (by omega)]
theorem gray_bit (n i : Nat) : (n ^^^ n / 2) / 2 ^ i % 2 = (n / 2 ^ i + n / 2 ^ i / 2) % 2 := by
  have e : n / 2 / 2 ^ i = n / 2 ^ i / 2 := by rw [Nat.div_div_eq_div_mul, Nat.div_div_eq_div_mul, Nat.mul_comm]
  rw [Nat.xor_div_two_pow, e]
  generalize n / 2 ^ i = y
  have q := @Nat.xor_mod_two_eq_one y (y / 2)
  generalize (y ^^^ y / 2) = x at q ⊢
  by_cases c1 : y % 2 = 1
  · by_cases c2 : y / 2 % 2 = 1
    · have : ¬ x % 2 = 1 := fun h => q.1 h ⟨fun _ => c2, fun _ => c1⟩
      omega
    · have : x % 2 = 1 := q.2 (fun h => c2 (h.1 c1))
      omega
  · by_cases c2 : y / 2 % 2 = 1
    · have : x % 2 = 1 := q.2 (fun h => c1 (h.2 c2))
      omega
    · have : ¬ x % 2 = 1 := fun h => q.1 h ⟨fun h => absurd h c1, fun h => absurd h c2⟩
      omega
theorem state_l0 (L n : Nat) (hL : L ≤ 20) (hn : n < 1048576) : ∀ (d i : Nat) (x : List Int), i + d = L → x.length = L → (∀ j : Nat, j < i → rd x (j : Int) = ((bitB n j).toNat : Int)) →
    Ev (fun k => impl_state.l0 k ((n ^^^ n / 2 : Nat) : Int) x (L : Int) (i : Int)) (stB L n) := by
  have hx : n ^^^ n / 2 < 2 ^ 20 := Nat.xor_lt_two_pow (by simpa using hn) (by have : (2 : Nat) ^ 20 = 1048576 := by decide
                                                                               omega)
  have e20 : (2 : Nat) ^ 20 = 1048576 := by decide
  intro d
  induction d with
  | zero =>
    intro i x hi hxl h
    obtain rfl : i = L := by omega
    have : strOfNums x = stB i n := by
      apply ByteArray.ext
      apply Array.toList_inj.1
      show (x.map fun n => UInt8.ofNat n.toNat) = grS i n
      apply List.ext_getElem (by rw [List.length_map, hxl, grS_length])
      intro j h1 h2
      have hj : j < x.length := by simpa using h1
      have e : x[j] = rd x (j : Int) := by simp [rd, hj]
      rw [List.getElem_map, grS_at i n j h2, e, h j (by omega), Int.toNat_natCast]
      simp
    exact Ev.last fun k => by rw [impl_state.l0, if_neg (by omega), this]
  | succ d ih =>
    intro i x hi hxl h
    have hdl := Nat.div_le_self (n ^^^ n / 2) (2 ^ i)
    refine Ev.next ⟨0, fun k _ => ?_⟩ (ih (i + 1) (x.set i ((bitB n i).toNat : Int)) (by omega) (by rw [List.length_set]; exact hxl) (fun j hj => by
      rw [srd _ _ _ _ (by omega)]
      by_cases c : j = i
      · subst c; rw [if_pos rfl]
      · rw [if_neg c]; exact h j (by omega)))
    have hb : (48 + (((((n ^^^ n / 2) / 2 ^ i % 2 : Nat)) : Int) % 256)) % 256 = ((bitB n i).toNat : Int) := by
      rw [gray_bit]
      unfold bitB
      by_cases c : (n / 2 ^ i + n / 2 ^ i / 2) % 2 = 1
      · rw [if_pos c, c]; rfl
      · rw [if_neg c, show (n / 2 ^ i + n / 2 ^ i / 2) % 2 = 0 by omega]; rfl
    rw [impl_state.l0, if_pos (by omega), if_pos (by omega), if_pos (by omega), shr_nat _ _ (by omega), and_one _ (by omega), hb, Int.toNat_natCast, w64 (by omega) (by omega)]
    rfl
theorem state_ev (L n : Nat) (hL : L ≤ 20) (hn : n < 2 ^ L) : Ev (fun k => impl_state.f k (L : Int) (n : Int)) (stB L n) := by
  have hp := pow20 hL
  obtain ⟨K, hK⟩ := state_l0 L n hL (by omega) L 0 (List.replicate L 0) (by omega) (by simp) (fun j hj => by omega)
  refine ⟨K, fun k hk => ?_⟩
  have hK := hK k hk
  have et : Int.tdiv (n : Int) 2 = ((n / 2 : Nat) : Int) := rfl
  unfold impl_state.f
  dsimp only
  rw [if_pos (by omega), if_pos (by omega), Option.bind_some, et, w64 (a := ((n / 2 : Nat) : Int)) (by omega) (by omega), xor_i64 n (n / 2) (by omega) (by omega), List.length_replicate, Int.toNat_natCast]
  exact hK

/-! ### after spec_riState -/
theorem riState_l0 (L n : Nat) (hL : L ≤ 20) (hn : n < 1048576) : ∀ (d i : Nat), i + d = L →
    Ev (fun k => spec_riState.l0 k (L : Int) (n : Int) ⟨((grS L n).take i).toArray⟩ (i : Int)) (stB L n) := by
  intro d
  induction d with
  | zero =>
    intro i hi
    obtain rfl : i = L := by omega
    rw [List.take_of_length_le (by rw [grS_length]; omega)]
    exact Ev.last fun k => by rw [spec_riState.l0, if_neg (by omega)]; rfl
  | succ d ih =>
    intro i hi
    have hlt : i < (grS L n).length := by rw [grS_length]; omega
    have hd1 := Nat.div_le_self n (2 ^ i)
    have hd2 := Nat.div_le_self n (2 ^ (i + 1))
    have ew : wrap64 ((i : Int) + 1) = ((i + 1 : Nat) : Int) := by rw [w64 (by omega) (by omega)]; omega
    have ez : (⟨((grS L n).take i).toArray⟩ : ByteArray).size = i := by
      rw [Lib.size_eq]; show ((grS L n).take i).length = i; rw [List.length_take]; omega
    have e2 : n / 2 ^ (i + 1) = n / 2 ^ i / 2 := by rw [Nat.div_div_eq_div_mul, Nat.pow_succ]
    have htk : (grS L n).take (i + 1) = (grS L n).take i ++ [bitB n i] := by rw [List.take_succ_eq_append_getElem hlt, grS_at L n i hlt]
    refine Ev.next ⟨0, fun k _ => ?_⟩ (ih (i + 1) (by omega))
    rw [spec_riState.l0, ew, if_pos (by omega), if_pos (by omega), if_pos (by omega), shr_nat _ _ (by omega), shr_nat _ _ (by omega), and_one _ (by omega), and_one _ (by omega), ez, htk]
    unfold bitB
    rw [e2]
    by_cases c : (n / 2 ^ i + n / 2 ^ i / 2) % 2 = 1
    · rw [if_neg (by omega), if_pos (by omega), if_pos c, ← str_snoc]
    · rw [if_pos (by omega), if_pos (by omega), if_neg c, ← str_snoc]
theorem riState_ev (L n : Nat) (hL : L ≤ 20) (hn : n < 2 ^ L) : Ev (fun k => spec_riState.f k (L : Int) (n : Int)) (stB L n) := by
  have hp := pow20 hL
  exact riState_l0 L n hL (by omega) L 0 (by omega)

/-! ### after spec_waWalks -/
theorem gF_one (l : Nat) (f : Nat → Nat) (n : Nat) : gF 1 l f n = f n := by unfold gF; split <;> omega
theorem waWalks_l1 (l : Nat) (f : Nat → Nat) (hl : l ≤ 1048575) (hf : ∀ y, y ≤ l → f y ≤ 1099511627776) (mv : Int) (r : List Int)
    (hk : Ev (fun k => spec_waWalks.l0 k (l : Int) (wrap64 (mv - 1)) (rowL l (stepF 1 l f))) r) : ∀ (d i : Nat), i + d = l + 1 →
    Ev (fun k => spec_waWalks.l1 k (l : Int) mv (rowL l (partF 1 l f i)) (rowL l f) ((l + 1 : Nat) : Int) (i : Int)) r := by
  intro d
  induction d with
  | zero =>
    intro i hi
    obtain rfl : i = l + 1 := by omega
    refine Ev.next ⟨0, fun k _ => ?_⟩ hk
    rw [spec_waWalks.l1, if_neg (by omega), part_end]
  | succ d ih =>
    intro i hi
    have hil : i ≤ l := by omega
    have b1 := fun y (hy : y ≤ l) => part_le 1 l f (.inl rfl) 1099511627776 hf i y hil hy
    have b0 := hf i hil
    have hg := gF_one l f i
    have ew : wrap64 ((i : Int) + 1) = ((i + 1 : Nat) : Int) := by rw [w64 (by omega) (by omega)]; omega
    refine Ev.next ⟨0, fun k _ => ?_⟩ (ih (i + 1) (by omega))
    rw [spec_waWalks.l1, rowL_len, rowL_len, ew, if_pos (by omega), if_pos (by omega), if_pos (by omega), rowL_rd l f i hil, ← hg]
    rw [← hg] at b0
    by_cases c0 : 0 < i
    · have e1 : wrap64 ((i : Int) - 1) = ((i - 1 : Nat) : Int) := by rw [w64 (by omega) (by omega)]; omega
      have b2 := (b1 (i - 1) (by omega)).1
      rw [if_pos (by omega), e1, if_pos (by omega), if_pos (by omega), Option.bind_some, rowL_rd _ _ _ (by omega), w64 (a := (partF 1 l f i (i - 1) : Int) + (gF 1 l f i : Int)) (by omega) (by omega), Int.toNat_natCast, ← Int.natCast_add, part_lo 1 l f i c0 hil]
      by_cases c1 : i < l
      · have b3 := (b1 (i + 1) (by omega)).2
        rw [if_pos (by omega), if_pos (by omega), if_pos (by omega), rowL_rd _ _ _ (by omega), w64 (a := (midF 1 l f i (i + 1) : Int) + (gF 1 l f i : Int)) (by omega) (by omega), Int.toNat_natCast, ← Int.natCast_add, part_hi 1 l f i c1]
      · obtain rfl : i = l := by omega
        rw [if_neg (by omega), part_last]
    · obtain rfl : i = 0 := by omega
      rw [if_neg (by omega), mid_first]
      by_cases c1 : 0 < l
      · have b3 := (b1 (0 + 1) (by omega)).2
        rw [if_pos (by omega), if_pos (by omega), if_pos (by omega), rowL_rd _ _ _ (by omega), w64 (a := (midF 1 l f 0 (0 + 1) : Int) + (gF 1 l f 0 : Int)) (by omega) (by omega), Int.toNat_natCast, ← Int.natCast_add, part_hi 1 l f 0 c1]
      · obtain rfl : l = 0 := by omega
        rw [if_neg (by omega), part_last]
theorem waWalks_l0 (l x : Nat) (h0 : 0 < l) (hl : l ≤ 1048575) : ∀ (d t : Nat), t + d ≤ 40 →
    Ev (fun k => spec_waWalks.l0 k (l : Int) (d : Int) (rowL l (WF 1 l x t))) (rowL l (WF 1 l x (t + d))) := by
  intro d
  induction d with
  | zero => intro t ht; exact Ev.last fun k => by rw [spec_waWalks.l0, if_neg (by omega)]; rfl
  | succ d ih =>
    intro t ht
    have ew : wrap64 (((d + 1 : Nat) : Int) - 1) = (d : Int) := by rw [w64 (by omega) (by omega)]; omega
    have el : wrap64 ((l : Int) + 1) = ((l + 1 : Nat) : Int) := by rw [w64 (by omega) (by omega)]; omega
    have hi := ih (t + 1) (by omega)
    rw [show t + 1 + d = t + (d + 1) by omega] at hi
    have hk := waWalks_l1 l (WF 1 l x t) hl (fun y hy => WF_le40 1 l x t y (.inl rfl) h0 hy (by omega)) ((d + 1 : Nat) : Int) _ (by rw [ew]; exact hi) (l + 1) 0 (by omega)
    refine Ev.next ⟨0, fun k _ => ?_⟩ hk
    rw [spec_waWalks.l0, if_pos (by omega), el, if_pos (by omega), if_pos (by omega), Int.toNat_natCast, rowL_len, part_zero]
    rfl
theorem waWalks_ev (l x m : Nat) (h0 : 0 < l) (hl : l ≤ 1048575) (hx : x ≤ l) (hm : m ≤ 40) : Ev (fun k => spec_waWalks.f k (x : Int) (l : Int) (m : Int)) (rowL l (WF 1 l x m)) := by
  obtain ⟨K, hK⟩ := waWalks_l0 l x h0 hl m 0 (by omega)
  refine ⟨K, fun k hk => ?_⟩
  have hK := hK k hk
  rw [Nat.zero_add] at hK
  have el : wrap64 ((l : Int) + 1) = ((l + 1 : Nat) : Int) := by rw [w64 (by omega) (by omega)]; omega
  unfold spec_waWalks.f
  dsimp only
  rw [el, if_pos (by omega), if_pos (by omega), Option.bind_some, if_pos (by omega), List.length_replicate, Int.toNat_natCast, if_pos (by omega), Int.toNat_natCast, start_row _ _ hx 1]
  exact hK

/-! ### after spec_waChances -/
theorem waChances_l1 (l : Nat) (f : Nat → Nat) (h0l : 0 < l) (hl : l ≤ 1048575) (hf : ∀ y, y ≤ l → f y ≤ 1099511627776) (mv : Int) (r : List Int)
    (hk : Ev (fun k => spec_waChances.l0 k (l : Int) (wrap64 (mv - 1)) (rowL l (stepF 2 l f))) r) : ∀ (d i : Nat), i + d = l + 1 →
    Ev (fun k => spec_waChances.l1 k (l : Int) mv (rowL l (partF 2 l f i)) (rowL l f) ((l + 1 : Nat) : Int) (i : Int)) r := by
  intro d
  induction d with
  | zero =>
    intro i hi
    obtain rfl : i = l + 1 := by omega
    refine Ev.next ⟨0, fun k _ => ?_⟩ hk
    rw [spec_waChances.l1, if_neg (by omega), part_end]
  | succ d ih =>
    intro i hi
    have hil : i ≤ l := by omega
    have b1 := fun y (hy : y ≤ l) => part_le 2 l f (.inr rfl) 1099511627776 hf i y hil hy
    have b0 := hf i hil
    have ew : wrap64 ((i : Int) + 1) = ((i + 1 : Nat) : Int) := by rw [w64 (by omega) (by omega)]; omega
    refine Ev.next ⟨0, fun k _ => ?_⟩ (ih (i + 1) (by omega))
    rw [spec_waChances.l1, rowL_len, rowL_len, ew, if_pos (by omega), if_pos (by omega), if_pos (by omega), rowL_rd l f i hil]
    by_cases c0 : i = 0
    · subst c0
      have hg : 2 * f 0 = gF 2 l f 0 := by unfold gF; rw [if_pos (.inl rfl)]; omega
      have b3 := (b1 (0 + 1) (by omega)).2
      have eg : wrap64 (2 * (f 0 : Int)) = (gF 2 l f 0 : Int) := by rw [w64 (by omega) (by omega)]; omega
      have e1 : (1 : Int) = ((0 + 1 : Nat) : Int) := rfl
      rw [if_pos (show ((0 : Nat) : Int) = 0 from rfl), if_pos (by omega), eg, mid_first]
      rw [show rd (rowL l (midF 2 l f 0)) 1 = (midF 2 l f 0 (0 + 1) : Int) from rowL_rd l _ (0 + 1) (by omega), w64 (a := (midF 2 l f 0 (0 + 1) : Int) + (gF 2 l f 0 : Int)) (by omega) (by omega), ← Int.natCast_add, ← part_hi 2 l f 0 h0l]
      rfl
    · have e1 : wrap64 ((i : Int) - 1) = ((i - 1 : Nat) : Int) := by rw [w64 (by omega) (by omega)]; omega
      have b2 := (b1 (i - 1) (by omega)).1
      by_cases c1 : i = l
      · subst c1
        have hg : 2 * f i = gF 2 i f i := by unfold gF; rw [if_pos (.inr rfl)]; omega
        have eg : wrap64 (2 * (f i : Int)) = (gF 2 i f i : Int) := by rw [w64 (by omega) (by omega)]; omega
        rw [if_neg (by omega), if_pos rfl, e1, if_pos (by omega), if_pos (by omega), eg, rowL_rd _ _ _ (by omega), w64 (a := (partF 2 i f i (i - 1) : Int) + (gF 2 i f i : Int)) (by omega) (by omega), Int.toNat_natCast, ← Int.natCast_add, part_lo 2 i f i (by omega) (by omega), part_last]
      · have hg : f i = gF 2 l f i := by unfold gF; rw [if_neg (by omega)]
        have b3 := (b1 (i + 1) (by omega)).2
        rw [hg] at b0 ⊢
        rw [if_neg (by omega), if_neg (by omega), e1, if_pos (by omega), if_pos (by omega), Option.bind_some, rowL_rd _ _ _ (by omega), w64 (a := (partF 2 l f i (i - 1) : Int) + (gF 2 l f i : Int)) (by omega) (by omega), Int.toNat_natCast, ← Int.natCast_add, part_lo 2 l f i (by omega) hil, if_pos (by omega), if_pos (by omega), rowL_rd _ _ _ (by omega), w64 (a := (midF 2 l f i (i + 1) : Int) + (gF 2 l f i : Int)) (by omega) (by omega), Int.toNat_natCast, ← Int.natCast_add, part_hi 2 l f i (by omega)]
theorem waChances_l0 (l x : Nat) (h0 : 0 < l) (hl : l ≤ 1048575) : ∀ (d t : Nat), t + d ≤ 40 →
    Ev (fun k => spec_waChances.l0 k (l : Int) (d : Int) (rowL l (WF 2 l x t))) (rowL l (WF 2 l x (t + d))) := by
  intro d
  induction d with
  | zero => intro t ht; exact Ev.last fun k => by rw [spec_waChances.l0, if_neg (by omega)]; rfl
  | succ d ih =>
    intro t ht
    have ew : wrap64 (((d + 1 : Nat) : Int) - 1) = (d : Int) := by rw [w64 (by omega) (by omega)]; omega
    have el : wrap64 ((l : Int) + 1) = ((l + 1 : Nat) : Int) := by rw [w64 (by omega) (by omega)]; omega
    have hi := ih (t + 1) (by omega)
    rw [show t + 1 + d = t + (d + 1) by omega] at hi
    have hk := waChances_l1 l (WF 2 l x t) h0 hl (fun y hy => WF_le40 2 l x t y (.inr rfl) h0 hy (by omega)) ((d + 1 : Nat) : Int) _ (by rw [ew]; exact hi) (l + 1) 0 (by omega)
    refine Ev.next ⟨0, fun k _ => ?_⟩ hk
    rw [spec_waChances.l0, if_pos (by omega), el, if_pos (by omega), if_pos (by omega), Int.toNat_natCast, rowL_len, part_zero]
    rfl
theorem waChances_ev (l x m : Nat) (h0 : 0 < l) (hl : l ≤ 1048575) (hx : x ≤ l) (hm : m ≤ 40) : Ev (fun k => spec_waChances.f k (x : Int) (l : Int) (m : Int)) (rowL l (WF 2 l x m)) := by
  obtain ⟨K, hK⟩ := waChances_l0 l x h0 hl m 0 (by omega)
  refine ⟨K, fun k hk => ?_⟩
  have hK := hK k hk
  rw [Nat.zero_add] at hK
  have el : wrap64 ((l : Int) + 1) = ((l + 1 : Nat) : Int) := by rw [w64 (by omega) (by omega)]; omega
  unfold spec_waChances.f
  dsimp only
  rw [el, if_pos (by omega), if_pos (by omega), Option.bind_some, if_pos (by omega), List.length_replicate, Int.toNat_natCast, if_pos (by omega), Int.toNat_natCast, start_row _ _ hx 2]
  exact hK

/-! ### after impl_isWalk -/
theorem isWalk_eq (a : ByteArray) (h : a.size ≤ 1048576) : impl_isWalk.f a = some (stateB a && decide ((a.size : Int) ≤ 12)) := by
  unfold impl_isWalk.f
  rw [isState_eq a (by omega), Option.bind_some]
  cases stateB a <;> simp

/-! ### after impl_WalksTo -/
def smallB (a b : ByteArray) (m : Int) : Bool := twoB a b && (decide ((a.size : Int) ≤ 12) && inB m 0 40)
theorem small_facts {a b : ByteArray} {m : Int} (h : smallB a b m = true) : twoB a b = true ∧ a.size ≤ 12 ∧ 0 ≤ m ∧ m ≤ 40 := by
  simp only [smallB, Bool.and_eq_true, decide_eq_true_eq] at h
  exact ⟨h.1, by omega, inB_lo h.2.2, inB_hi h.2.2⟩
def walksR (a b : ByteArray) (m : Int) : Int × Bool := if smallB a b m = true then ((WF 1 (lastS a) (numS a) m.toNat (numS b) : Int), true) else (0, false)
theorem implWalks_ev (a b : ByteArray) (m : Int) (ha : a.size ≤ 1048576) (hb : b.size ≤ 1048576) : Ev (fun k => impl_WalksTo.f k a b m) (walksR a b m) := by
  unfold walksR
  by_cases c : smallB a b m = true
  · obtain ⟨c1, c2, c3, c4⟩ := small_facts c
    obtain ⟨h1, h2, h3⟩ := two_facts c1
    obtain ⟨q, rfl⟩ : ∃ q : Nat, m = q := ⟨m.toNat, by omega⟩
    obtain ⟨l1, l2, l3, l4, l5⟩ := last_facts h1
    obtain ⟨_, _, m3, _, _⟩ := last_facts h2
    have hlb : lastS b = lastS a := by unfold lastS; rw [h3]
    obtain ⟨K1, e1⟩ := spread_ev h1 1 q (.inl rfl) (by omega)
    obtain ⟨K2, e2⟩ := number_ev h2
    refine ⟨K1 + K2 + 1, fun k hk => ?_⟩
    obtain ⟨k, rfl⟩ : ∃ m, k = m + 1 := ⟨k - 1, by omega⟩
    have e1 := e1 k (by omega)
    have e2 := e2 k (by omega)
    simp only at e1 e2
    have en : (grN b.data.toList : Int) = (numS b : Int) := rfl
    have e11 : ((1 : Nat) : Int) = 1 := rfl
    rw [en] at e2
    rw [e11] at e1
    have hi : inB (q : Int) 0 40 = true := inB_of (by omega) (by omega)
    dsimp only
    rw [if_pos c, Int.toNat_natCast, impl_WalksTo.f, alike_eq a b ha hb, Option.bind_some, c1, if_pos rfl, isWalk_eq a ha, Option.bind_some, h1, decide_eq_true (show (a.size : Int) ≤ 12 by omega), Bool.and_self, if_pos rfl, impl_in.f, inB_ite, Option.bind_some, hi, impl_WalksTo.j0, if_neg (by simp), e1, Option.bind_some, e2, Option.bind_some, if_pos (by omega), rowL_len, if_pos (by omega), rowL_rd _ _ _ (by omega)]
  · rw [if_neg c]
    refine ⟨1, fun k hk => ?_⟩
    obtain ⟨k, rfl⟩ : ∃ m, k = m + 1 := ⟨k - 1, by omega⟩
    dsimp only
    rw [impl_WalksTo.f, alike_eq a b ha hb, Option.bind_some]
    unfold smallB at c
    cases c1 : twoB a b with
    | false => simp [impl_WalksTo.j0]
    | true =>
      obtain ⟨h1, _, _⟩ := two_facts c1
      rw [c1, Bool.true_and] at c
      rw [if_pos rfl, isWalk_eq a ha, Option.bind_some, h1, Bool.true_and]
      cases c2 : decide ((a.size : Int) ≤ 12) with
      | false => simp [impl_WalksTo.j0]
      | true =>
        rw [c2, Bool.true_and] at c
        have hi : inB m 0 40 = false := by simpa using c
        rw [if_pos rfl, impl_in.f, inB_ite, Option.bind_some, hi]
        simp [impl_WalksTo.j0]

/-! ### after spec_waSmall -/
theorem waSmall_ev (a b : ByteArray) (m : Int) : Ev (fun k => spec_waSmall.f k a b m) (smallB a b m) := by
  obtain ⟨K, e⟩ := riTwo_ev a b
  refine ⟨K, fun k hk => ?_⟩
  have e := e k hk
  simp only at e
  dsimp only
  rw [spec_waSmall.f, e, Option.bind_some, spec_l1In.f, inB_ite, Option.bind_some]
  unfold smallB
  cases twoB a b
  · rfl
  · by_cases c : (a.size : Int) ≤ 12
    · rw [if_pos rfl, if_pos c, decide_eq_true c]; rfl
    · rw [if_pos rfl, if_neg c, decide_eq_false c]; rfl

/-! ### after spec_WalksTo -/
theorem specWalks_ev (a b : ByteArray) (m : Int) : Ev (fun k => spec_WalksTo.f k a b m) (walksR a b m) := by
  unfold walksR
  obtain ⟨K0, e0⟩ := waSmall_ev a b m
  by_cases c : smallB a b m = true
  · obtain ⟨c1, c2, c3, c4⟩ := small_facts c
    obtain ⟨h1, h2, h3⟩ := two_facts c1
    obtain ⟨q, rfl⟩ : ∃ q : Nat, m = q := ⟨m.toNat, by omega⟩
    obtain ⟨l1, l2, l3, l4, l5⟩ := last_facts h1
    obtain ⟨_, _, m3, _, _⟩ := last_facts h2
    have hlb : lastS b = lastS a := by unfold lastS; rw [h3]
    obtain ⟨K1, e1⟩ := waNumbers_ev h1 h2
    obtain ⟨K2, e2⟩ := waWalks_ev (lastS a) (numS a) q (by omega) l2 l3 (by omega)
    refine ⟨K0 + K1 + K2, fun k hk => ?_⟩
    have e0 := e0 k (by omega)
    have e1 := e1 k (by omega)
    have e2 := e2 k (by omega)
    simp only at e0 e1 e2
    dsimp only
    rw [if_pos c, Int.toNat_natCast, spec_WalksTo.f, e0, c, Option.bind_some, if_pos rfl, e1, Option.bind_some]
    dsimp only
    rw [e2, Option.bind_some, if_pos (by omega), rowL_len, if_pos (by omega), rowL_rd _ _ _ (by omega)]
  · refine ⟨K0, fun k hk => ?_⟩
    have e0 := e0 k (by omega)
    simp only at e0
    simp [spec_WalksTo.f, e0, c]

/-! ### after impl_ChanceAfter -/
def chanceR (a b : ByteArray) (m : Int) : Int × Int × Bool := if smallB a b m = true then ((lowR (WF 2 (lastS a) (numS a) m.toNat (numS b)) (2 ^ m.toNat)).1, (lowR (WF 2 (lastS a) (numS a) m.toNat (numS b)) (2 ^ m.toNat)).2, true) else (0, 0, false)
theorem implAfter_ev (a b : ByteArray) (m : Int) (ha : a.size ≤ 1048576) (hb : b.size ≤ 1048576) : Ev (fun k => impl_ChanceAfter.f k a b m) (chanceR a b m) := by
  unfold chanceR
  by_cases c : smallB a b m = true
  · obtain ⟨c1, c2, c3, c4⟩ := small_facts c
    obtain ⟨h1, h2, h3⟩ := two_facts c1
    obtain ⟨q, rfl⟩ : ∃ q : Nat, m = q := ⟨m.toNat, by omega⟩
    obtain ⟨l1, l2, l3, l4, l5⟩ := last_facts h1
    obtain ⟨_, _, m3, _, _⟩ := last_facts h2
    have hlb : lastS b = lastS a := by unfold lastS; rw [h3]
    obtain ⟨K1, e1⟩ := spread_ev h1 2 q (.inr rfl) (by omega)
    obtain ⟨K2, e2⟩ := number_ev h2
    have hp : 2 ^ q ≤ 2 ^ 40 := pow2_le (by omega)
    have hp0 : 0 < 2 ^ q := Nat.pow_pos (by omega)
    have e40 : (2 : Nat) ^ 40 = 1099511627776 := by decide
    have hw := WF_le40 2 (lastS a) (numS a) q (numS b) (.inr rfl) (by omega) (by omega) (by omega)
    obtain ⟨K3, e3⟩ := low_ev (WF 2 (lastS a) (numS a) q (numS b)) (2 ^ q) (by omega) (by omega) (by omega)
    refine ⟨K1 + K2 + K3 + 1, fun k hk => ?_⟩
    obtain ⟨k, rfl⟩ : ∃ m, k = m + 1 := ⟨k - 1, by omega⟩
    have e1 := e1 k (by omega)
    have e2 := e2 k (by omega)
    have e3 := e3 k (by omega)
    simp only at e1 e2 e3
    have en : (grN b.data.toList : Int) = (numS b : Int) := rfl
    have e11 : ((2 : Nat) : Int) = 2 := rfl
    rw [en] at e2
    rw [e11] at e1
    have hi : inB (q : Int) 0 40 = true := inB_of (by omega) (by omega)
    dsimp only
    rw [if_pos c, Int.toNat_natCast, impl_ChanceAfter.f, alike_eq a b ha hb, Option.bind_some, c1, if_pos rfl, isWalk_eq a ha, Option.bind_some, h1, decide_eq_true (show (a.size : Int) ≤ 12 by omega), Bool.and_self, if_pos rfl, impl_in.f, inB_ite, Option.bind_some, hi, impl_ChanceAfter.j0, if_neg (by simp), e1, Option.bind_some, e2, Option.bind_some, if_pos (by omega), rowL_len, if_pos (by omega), rowL_rd _ _ _ (by omega), if_pos (by omega), shl_pow2 (by omega), e3, Option.bind_some]
  · rw [if_neg c]
    refine ⟨1, fun k hk => ?_⟩
    obtain ⟨k, rfl⟩ : ∃ m, k = m + 1 := ⟨k - 1, by omega⟩
    dsimp only
    rw [impl_ChanceAfter.f, alike_eq a b ha hb, Option.bind_some]
    unfold smallB at c
    cases c1 : twoB a b with
    | false => simp [impl_ChanceAfter.j0]
    | true =>
      obtain ⟨h1, _, _⟩ := two_facts c1
      rw [c1, Bool.true_and] at c
      rw [if_pos rfl, isWalk_eq a ha, Option.bind_some, h1, Bool.true_and]
      cases c2 : decide ((a.size : Int) ≤ 12) with
      | false => simp [impl_ChanceAfter.j0]
      | true =>
        rw [c2, Bool.true_and] at c
        have hi : inB m 0 40 = false := by simpa using c
        rw [if_pos rfl, impl_in.f, inB_ite, Option.bind_some, hi]
        simp [impl_ChanceAfter.j0]

/-! ### after spec_ChanceAfter -/
theorem specAfter_ev (a b : ByteArray) (m : Int) : Ev (fun k => spec_ChanceAfter.f k a b m) (chanceR a b m) := by
  unfold chanceR
  obtain ⟨K0, e0⟩ := waSmall_ev a b m
  by_cases c : smallB a b m = true
  · obtain ⟨c1, c2, c3, c4⟩ := small_facts c
    obtain ⟨h1, h2, h3⟩ := two_facts c1
    obtain ⟨q, rfl⟩ : ∃ q : Nat, m = q := ⟨m.toNat, by omega⟩
    obtain ⟨l1, l2, l3, l4, l5⟩ := last_facts h1
    obtain ⟨_, _, m3, _, _⟩ := last_facts h2
    have hlb : lastS b = lastS a := by unfold lastS; rw [h3]
    obtain ⟨K1, e1⟩ := waNumbers_ev h1 h2
    obtain ⟨K2, e2⟩ := waChances_ev (lastS a) (numS a) q (by omega) l2 l3 (by omega)
    have hp : 2 ^ q ≤ 2 ^ 40 := pow2_le (by omega)
    have hp0 : 0 < 2 ^ q := Nat.pow_pos (by omega)
    have e40 : (2 : Nat) ^ 40 = 1099511627776 := by decide
    have hw := WF_le40 2 (lastS a) (numS a) q (numS b) (.inr rfl) (by omega) (by omega) (by omega)
    obtain ⟨K3, e3⟩ := waLow_ev (WF 2 (lastS a) (numS a) q (numS b)) (2 ^ q) (by omega) (by omega) (by omega)
    refine ⟨K0 + K1 + K2 + K3, fun k hk => ?_⟩
    have e0 := e0 k (by omega)
    have e1 := e1 k (by omega)
    have e2 := e2 k (by omega)
    have e3 := e3 k (by omega)
    simp only at e0 e1 e2 e3
    dsimp only
    rw [if_pos c, Int.toNat_natCast, spec_ChanceAfter.f, e0, c, Option.bind_some, if_pos rfl, e1, Option.bind_some]
    dsimp only
    rw [e2, Option.bind_some, if_pos (by omega), rowL_len, if_pos (by omega), rowL_rd _ _ _ (by omega), if_pos (by omega), shl_pow2 (by omega), e3, Option.bind_some]
  · refine ⟨K0, fun k hk => ?_⟩
    have e0 := e0 k (by omega)
    simp only at e0
    simp [spec_ChanceAfter.f, e0, c]

/-! ### after impl_movesOf -/
theorem canL_at : ∀ (l : List UInt8) (j : Nat), l.all isBit = true → canL l (j + 1) = decide (j + 1 < l.length ∧ l.getD j 0 = 49 ∧ (l.take j).count 49 = 0)
  | [], j, _ => by simp [canL]
  | b :: t, 0, h => by
    cases t with
    | nil => simp [canL]
    | cons c t =>
      simp only [canL, List.isEmpty_cons, Bool.not_false, Bool.and_true]
      rw [Bool.eq_iff_iff]
      simp
  | b :: t, j + 1, h => by
    rw [List.all_cons, Bool.and_eq_true] at h
    have ih := canL_at t j h.2
    show (b == 48 && canL t (j + 1)) = _
    rw [ih]
    rcases bit_cases h.1 with rfl | rfl
    · simp
    · simp
theorem canB_L (s : ByteArray) (hb : s.data.toList.all isBit = true) (i : Nat) (hi : i < s.size) : canB s (i : Int) = canL s.data.toList i := by
  have hz := Lib.size_eq s
  cases i with
  | zero =>
    have e : canL s.data.toList 0 = true := by cases s.data.toList <;> rfl
    rw [e]; simp [canB]
  | succ j =>
    rw [canL_at _ _ hb]
    have hj : j < s.data.toList.length := by omega
    have e1 : ((j + 1 : Nat) : Int) - 1 = (j : Int) := by omega
    have eb := bt_nat s j hj
    have eg : s.data.toList.getD j 0 = s.data.toList[j] := by simp [List.getD, List.getElem?_eq_getElem hj]
    have q : ((s.data.toList[j].toNat : Int) = 49) = (s.data.toList[j] = 49) := byte_toInt _ 49 (by omega)
    unfold canB
    rw [e1, eb, eg, Int.toNat_natCast, inB_of (by omega) (by omega), decide_eq_false (show ¬ ((j + 1 : Nat) : Int) = 0 by omega)]
    simp only [q, Bool.false_or, Bool.true_and]
    have hlt : j + 1 < s.data.toList.length := by omega
    rw [Bool.eq_iff_iff]
    simp [hlt]
    intro _ _
    omega
def movesI (s : ByteArray) : List Int := (movesL s.data.toList).map fun i : Nat => (i : Int)
theorem moves_l0 (s : ByteArray) (hs : s.size ≤ 20) (hb : s.data.toList.all isBit = true) : ∀ (d i : Nat), i + d = s.size →
    Ev (fun k => impl_movesOf.l0 k s (((List.range i).filter (canL s.data.toList)).map fun j : Nat => (j : Int)) (s.size : Int) (i : Int)) (movesI s) := by
  have hz := Lib.size_eq s
  intro d
  induction d with
  | zero =>
    intro i hi
    obtain rfl : i = s.size := by omega
    refine Ev.last fun k => ?_
    rw [impl_movesOf.l0, if_neg (by omega)]
    unfold movesI movesL
    rw [hz]
  | succ d ih =>
    intro i hi
    have hlen : (((List.range i).filter (canL s.data.toList)).map fun j : Nat => (j : Int)).length ≤ i := by
      rw [List.length_map]; exact Nat.le_trans (List.length_filter_le _ _) (by simp)
    refine Ev.next ⟨0, fun k _ => ?_⟩ (ih (i + 1) (by omega))
    rw [impl_movesOf.l0, if_pos (by omega), canMove_eq s _ (by omega) hb, Option.bind_some, canB_L s hb i (by omega), List.range_succ, List.filter_append, List.map_append, w64 (by omega) (by omega)]
    cases hc : canL s.data.toList i
    · rw [if_neg (by simp)]
      simp [hc]
    · rw [if_pos rfl, if_pos (by omega)]
      simp [hc]
theorem movesOf_ev {s : ByteArray} (h : stateB s = true) : Ev (fun k => impl_movesOf.f k s) (movesI s) := by
  obtain ⟨h1, h2, h3, h4⟩ := state_facts h
  exact moves_l0 s h2 h3 s.size 0 (by omega)

/-! ### after impl_MovesOf -/
def movesR (s : ByteArray) : List Int × Bool := if stateB s = true then (movesI s, true) else ([], false)
theorem implMoves_ev (s : ByteArray) (hs : s.size ≤ 1048576) : Ev (fun k => impl_MovesOf.f k s) (movesR s) := by
  unfold movesR
  by_cases c : stateB s = true
  · obtain ⟨K, hK⟩ := movesOf_ev c
    refine ⟨K, fun k hk => ?_⟩
    have hK := hK k hk
    simp only at hK
    simp [impl_MovesOf.f, isState_eq s (by omega), c, hK]
  · exact ⟨0, fun k _ => by simp [impl_MovesOf.f, isState_eq s (by omega), c]⟩

/-! ### after impl_MoveRing -/
def mvS (s : ByteArray) (k : Nat) : ByteArray := ⟨(flipL s.data.toList k).toArray⟩
theorem mvS_size (s : ByteArray) (k : Nat) : (mvS s k).size = s.size := by
  rw [Lib.size_eq, Lib.size_eq s]
  show (flipL s.data.toList k).length = _
  rw [flipL_length]
theorem mvS_state {s : ByteArray} (h : stateB s = true) (k : Nat) : stateB (mvS s k) = true := by
  obtain ⟨h1, h2, h3, h4⟩ := state_facts h
  unfold stateB
  rw [mvS_size, inB_of (by omega) (by omega)]
  show (true && (flipL s.data.toList k).all isBit) = true
  rw [flipL_all _ _ h3]; rfl
theorem implRing_eq {s : ByteArray} (h : stateB s = true) (k : Nat) (hk : k < s.size) (hc : canL s.data.toList k = true) : impl_MoveRing.f s (k : Int) = some (mvS s k, true) := by
  obtain ⟨h1, h2, h3, h4⟩ := state_facts h
  have ht : impl_turned.f s (k : Int) = some (mvS s k) := by
    unfold impl_turned.f mvS
    have hl : k < s.data.toList.length := by omega
    rw [if_pos ⟨by omega, by omega, by omega⟩, Int.toNat_natCast, flipL_set _ _ hl]
    simp [List.getD, List.getElem?_eq_getElem hl]
  rw [impl_MoveRing.f, isState_eq s (by omega), Option.bind_some, h, if_pos rfl, canMove_eq s _ (by omega) h3, Option.bind_some, canB_L s h3 k hk, hc, if_pos rfl, ht, Option.bind_some]

/-! ### after laws_yTexts -/
theorem yTexts_ev (l : List ByteArray) (hl : l.length ≤ 9223372036854775806) : Ev (fun k => laws_yTexts.f k l l) true := by
  have key : ∀ (d i : Nat), i + d = l.length → Ev (fun k => laws_yTexts.l0 k l l (l.length : Int) (i : Int)) true := by
    intro d
    induction d with
    | zero => intro i hi; exact Ev.last fun k => by rw [laws_yTexts.l0, if_neg (by omega)]
    | succ d ih =>
      intro i hi
      refine Ev.next ⟨0, fun k _ => ?_⟩ (ih (i + 1) (by omega))
      rw [laws_yTexts.l0, if_pos (by omega), if_pos (by omega), if_pos (by omega), if_pos (by omega), if_pos rfl, w64 (by omega) (by omega)]
      rfl
  obtain ⟨K, hK⟩ := key l.length 0 (by omega)
  exact ⟨K, fun k hk => by simp only [laws_yTexts.f, if_true]; exact hK k hk⟩

/-! ### after impl_LikeliestAfter -/
theorem with_ev (T : Int → Option Bool) (p : Nat → Bool) (r N : Nat) (hN : N ≤ 1048576) (hr : r ≤ 20) (hN2 : N = 2 ^ r) (hT : ∀ i : Nat, i < N → T (i : Int) = some (p i)) : ∀ (d i : Nat), i + d = N →
    Ev (fun k => impl_withNumbers.l0 T k (r : Int) (((List.range i).filter p).map (stB r)) (N : Int) (i : Int)) (((List.range N).filter p).map (stB r)) := by
  intro d
  induction d with
  | zero =>
    intro i hi
    obtain rfl : i = N := by omega
    exact Ev.last fun k => by rw [impl_withNumbers.l0, if_neg (by omega)]
  | succ d ih =>
    intro i hi
    have hlen : (((List.range i).filter p).map (stB r)).length ≤ i := by
      rw [List.length_map]; exact Nat.le_trans (List.length_filter_le _ _) (by simp)
    obtain ⟨K, hK⟩ := state_ev r i hr (by omega)
    refine Ev.next ⟨K, fun k hk => ?_⟩ (ih (i + 1) (by omega))
    have hK := hK k hk
    simp only at hK
    rw [impl_withNumbers.l0, if_pos (by omega), hT i (by omega), Option.bind_some, List.range_succ, List.filter_append, List.map_append, w64 (by omega) (by omega)]
    cases hc : p i
    · rw [if_neg (by simp)]; simp [hc]
    · rw [if_pos rfl, hK, Option.bind_some, if_pos (by omega)]; simp [hc]

/-! ### after impl_LikeliestAfter -/
/-- The greatest chance. -/
def mostN (a : ByteArray) (m : Nat) : Int := maxL (rowL (lastS a) (WF 2 (lastS a) (numS a) m))
def likelyP (a : ByteArray) (m n : Nat) : Bool := (WF 2 (lastS a) (numS a) m n : Int) == mostN a m
def likelyR (a : ByteArray) (m : Int) : List ByteArray × Bool := if smallB a a m = true then (((List.range (lastS a + 1)).filter (likelyP a m.toNat)).map (stB a.size), true) else ([], false)
theorem likelyR_len (a : ByteArray) (m : Int) (h : a.size ≤ 1048576) : (likelyR a m).1.length ≤ 1048576 := by
  unfold likelyR
  by_cases c : smallB a a m = true
  · obtain ⟨c1, _, _, _⟩ := small_facts c
    obtain ⟨l1, l2, _, _, _⟩ := last_facts (two_facts c1).1
    rw [if_pos c, List.length_map]
    exact Nat.le_trans (List.length_filter_le _ _) (by simp; omega)
  · rw [if_neg c]; simp
theorem implLikely_ev (a : ByteArray) (m : Int) (ha : a.size ≤ 1048576) : Ev (fun k => impl_LikeliestAfter.f k a m) (likelyR a m) := by
  unfold likelyR
  by_cases c : smallB a a m = true
  · obtain ⟨c1, c2, c3, c4⟩ := small_facts c
    obtain ⟨h1, _, _⟩ := two_facts c1
    obtain ⟨s1, s2, _, _⟩ := state_facts h1
    obtain ⟨q, rfl⟩ : ∃ q : Nat, m = q := ⟨m.toNat, by omega⟩
    obtain ⟨l1, l2, l3, l4, l5⟩ := last_facts h1
    obtain ⟨K1, e1⟩ := spread_ev h1 2 q (.inr rfl) (by omega)
    have e11 : ((2 : Nat) : Int) = 2 := rfl
    rw [e11] at e1
    have hi : inB (q : Int) 0 40 = true := inB_of (by omega) (by omega)
    obtain ⟨K2, e2⟩ := with_ev (takeAt (rowL (lastS a) (WF 2 (lastS a) (numS a) q)) (mostN a q)) (likelyP a q) a.size (lastS a + 1) (by omega) (by omega) (by omega) (fun i hi => by
      unfold takeAt
      rw [rowL_len, if_pos ⟨by omega, by omega⟩, rowL_rd _ _ _ (by omega)]
      rfl) (lastS a + 1) 0 (by omega)
    refine ⟨K1 + K2, fun k hk => ?_⟩
    have e1 := e1 k (by omega)
    have e2 := e2 k (by omega)
    simp only at e1 e2
    dsimp only
    rw [if_pos c, Int.toNat_natCast, impl_LikeliestAfter.f, isWalk_eq a ha, Option.bind_some, h1, decide_eq_true (show (a.size : Int) ≤ 12 by omega), Bool.and_self, if_pos rfl, hi, if_pos rfl, e1, Option.bind_some]
    have e3 : impl_withNumbers.f (takeAt (rowL (lastS a) (WF 2 (lastS a) (numS a) q)) (mostN a q)) k (a.size : Int) = some (((List.range (lastS a + 1)).filter (likelyP a q)).map (stB a.size)) := by
      unfold impl_withNumbers.f
      rw [if_pos (by omega), shl_pow2 (by omega), l4]
      exact e2
    show ((impl_withNumbers.f (takeAt (rowL (lastS a) (WF 2 (lastS a) (numS a) q)) (mostN a q)) k (a.size : Int)).bind fun r => some (r, true)) = _
    rw [e3, Option.bind_some]
  · rw [if_neg c]
    refine ⟨0, fun k hk => ?_⟩
    dsimp only
    rw [impl_LikeliestAfter.f, isWalk_eq a ha, Option.bind_some]
    have hs : smallB a a m = (stateB a && (decide ((a.size : Int) ≤ 12) && inB m 0 40)) := by
      unfold smallB twoB
      cases stateB a <;> simp
    rw [hs] at c
    cases c1 : stateB a with
    | false => simp
    | true =>
      rw [c1, Bool.true_and] at c
      rw [Bool.true_and]
      cases c2 : decide ((a.size : Int) ≤ 12) with
      | false => simp
      | true =>
        rw [c2, Bool.true_and] at c
        have hi : inB m 0 40 = false := by simpa using c
        rw [if_pos rfl, hi]; simp

/-! ### after spec_LikeliestAfter -/
theorem l1Most_eq (a b : Int) : spec_l1Most.f a b = some (if a < b then b else a) := by
  unfold spec_l1Most.f
  by_cases c : a > b
  · rw [if_pos c, if_neg (by omega)]
  · by_cases c2 : a = b
    · subst c2; rw [if_neg c, if_neg (by omega)]
    · rw [if_neg c, if_pos (by omega)]
theorem likely_l1 (a : ByteArray) (F : Nat → Nat) (l : Nat) (h1 : stateB a = true) (hl : 2 ^ a.size = l + 1) (hl2 : l ≤ 1048575) (M : Int) : ∀ (d i : Nat), i + d = l + 1 →
    Ev (fun k => spec_LikeliestAfter.l1 k a M (((List.range i).filter (fun n => (F n : Int) == M)).map (stB a.size)) (rowL l F) ((l + 1 : Nat) : Int) (i : Int)) (((List.range (l + 1)).filter (fun n => (F n : Int) == M)).map (stB a.size), true) := by
  obtain ⟨_, s2, _, _⟩ := state_facts h1
  intro d
  induction d with
  | zero =>
    intro i hi
    obtain rfl : i = l + 1 := by omega
    exact Ev.last fun k => by rw [spec_LikeliestAfter.l1, if_neg (by omega)]
  | succ d ih =>
    intro i hi
    have hlen : (((List.range i).filter (fun n => (F n : Int) == M)).map (stB a.size)).length ≤ i := by
      rw [List.length_map]; exact Nat.le_trans (List.length_filter_le _ _) (by simp)
    obtain ⟨K, hK⟩ := riState_ev a.size i s2 (by omega)
    refine Ev.next ⟨K, fun k hk => ?_⟩ (ih (i + 1) (by omega))
    have hK := hK k hk
    simp only at hK
    rw [spec_LikeliestAfter.l1, rowL_len, if_pos (by omega), if_pos (by omega), if_pos (by omega), rowL_rd _ _ _ (by omega), List.range_succ, List.filter_append, List.map_append, w64 (by omega) (by omega)]
    by_cases c : (F i : Int) = M
    · rw [if_pos c, hK, Option.bind_some, if_pos (by omega)]
      simp [c]
    · rw [if_neg c]
      simp [c]
theorem rowL_take (l : Nat) (F : Nat → Nat) (i : Nat) (h : i ≤ l) : (rowL l F).take (i + 1) = (rowL l F).take i ++ [(F i : Int)] := by
  have hlt : i < (rowL l F).length := by rw [rowL_len]; omega
  rw [List.take_succ_eq_append_getElem hlt]
  congr 1
  simp [rowL]
theorem likely_l0 (a : ByteArray) (F : Nat → Nat) (l : Nat) (h1 : stateB a = true) (hl : 2 ^ a.size = l + 1) (hl2 : l ≤ 1048575) : ∀ (d i : Nat), i + d = l + 1 →
    Ev (fun k => spec_LikeliestAfter.l0 k a (rowL l F) (maxL ((rowL l F).take i)) (rowL l F) ((l + 1 : Nat) : Int) (i : Int)) (((List.range (l + 1)).filter (fun n => (F n : Int) == maxL (rowL l F))).map (stB a.size), true) := by
  intro d
  induction d with
  | zero =>
    intro i hi
    obtain rfl : i = l + 1 := by omega
    rw [List.take_of_length_le (by rw [rowL_len]; omega)]
    refine Ev.next ⟨0, fun k _ => ?_⟩ (likely_l1 a F l h1 hl hl2 (maxL (rowL l F)) (l + 1) 0 (by omega))
    rw [spec_LikeliestAfter.l0, if_neg (by omega), rowL_len]
    rfl
  | succ d ih =>
    intro i hi
    refine Ev.next ⟨0, fun k _ => ?_⟩ (ih (i + 1) (by omega))
    rw [spec_LikeliestAfter.l0, rowL_len, if_pos (by omega), if_pos (by omega), if_pos (by omega), rowL_rd _ _ _ (by omega), l1Most_eq, Option.bind_some, rowL_take _ _ _ (by omega), maxL_snoc, w64 (by omega) (by omega)]
    rfl
theorem specLikely_ev (a : ByteArray) (m : Int) : Ev (fun k => spec_LikeliestAfter.f k a m) (likelyR a m) := by
  unfold likelyR
  obtain ⟨K0, e0⟩ := waSmall_ev a a m
  by_cases c : smallB a a m = true
  · obtain ⟨c1, c2, c3, c4⟩ := small_facts c
    obtain ⟨h1, _, _⟩ := two_facts c1
    obtain ⟨q, rfl⟩ : ∃ q : Nat, m = q := ⟨m.toNat, by omega⟩
    obtain ⟨l1, l2, l3, l4, l5⟩ := last_facts h1
    obtain ⟨K1, e1⟩ := riNumber_ev h1
    obtain ⟨K2, e2⟩ := waChances_ev (lastS a) (numS a) q (by omega) l2 l3 (by omega)
    obtain ⟨K3, e3⟩ := likely_l0 a (WF 2 (lastS a) (numS a) q) (lastS a) h1 l4 l2 (lastS a + 1) 0 (by omega)
    refine ⟨K0 + K1 + K2 + K3, fun k hk => ?_⟩
    have e0 := e0 k (by omega)
    have e1 := e1 k (by omega)
    have e2 := e2 k (by omega)
    have e3 := e3 k (by omega)
    simp only at e0 e1 e2 e3
    have en : (grN a.data.toList : Int) = (numS a : Int) := rfl
    rw [en] at e1
    dsimp only
    rw [if_pos c, Int.toNat_natCast, spec_LikeliestAfter.f, e0, c, Option.bind_some, if_pos rfl, e1, Option.bind_some, l5, e2, Option.bind_some, rowL_len]
    exact e3
  · refine ⟨K0, fun k hk => ?_⟩
    have e0 := e0 k (by omega)
    simp only at e0
    simp [spec_LikeliestAfter.f, e0, c]

/-! ### after impl_LikeliestAfter -/
theorem W_first (l : Nat) : ∀ (m x y : Nat), x ≤ l → y ≤ l → WF 1 l x (m + 1) y = (if x < l then WF 1 l (x + 1) m y else 0) + (if 0 < x then WF 1 l (x - 1) m y else 0)
  | 0, x, y, hx, hy => by
    show stepF 1 l (fun y => if y = x then 1 else 0) y = (if x < l then (if y = x + 1 then 1 else 0) else 0) + (if 0 < x then (if y = x - 1 then 1 else 0) else 0)
    unfold stepF
    simp only [gF_one]
    (repeat' split) <;> omega
  | m + 1, x, y, hx, hy => by
    have hs : ∀ z, WF 1 l z (m + 1) y = (if y < l then WF 1 l z m (y + 1) else 0) + (if 0 < y then WF 1 l z m (y - 1) else 0) := fun z => by
      show stepF 1 l (WF 1 l z m) y = _
      unfold stepF
      simp only [gF_one]
    have ht : WF 1 l x (m + 1 + 1) y = (if y < l then WF 1 l x (m + 1) (y + 1) else 0) + (if 0 < y then WF 1 l x (m + 1) (y - 1) else 0) := by
      show stepF 1 l (WF 1 l x (m + 1)) y = _
      unfold stepF
      simp only [gF_one]
    rw [ht, hs (x + 1), hs (x - 1)]
    by_cases c1 : y < l
    · have i1 := W_first l m x (y + 1) hx (by omega)
      rw [if_pos c1, if_pos c1, if_pos c1, i1]
      by_cases c2 : 0 < y
      · have i2 := W_first l m x (y - 1) hx (by omega)
        rw [if_pos c2, if_pos c2, if_pos c2, i2]
        (repeat' split) <;> omega
      · rw [if_neg c2, if_neg c2, if_neg c2]
        (repeat' split) <;> omega
    · rw [if_neg c1, if_neg c1, if_neg c1]
      by_cases c2 : 0 < y
      · have i2 := W_first l m x (y - 1) hx (by omega)
        rw [if_pos c2, if_pos c2, if_pos c2, i2]
        (repeat' split) <;> omega
      · rw [if_neg c2, if_neg c2, if_neg c2]
        (repeat' split) <;> omega
theorem W_sym (l : Nat) : ∀ (m x y : Nat), x ≤ l → y ≤ l → WF 1 l x m y = WF 1 l y m x
  | 0, x, y, _, _ => by
    show (if y = x then 1 else 0) = (if x = y then 1 else 0)
    split <;> split <;> omega
  | m + 1, x, y, hx, hy => by
    rw [W_first l m y x hy hx]
    show stepF 1 l (WF 1 l x m) y = _
    unfold stepF
    simp only [gF_one]
    by_cases c1 : y < l
    · rw [if_pos c1, if_pos c1, W_sym l m x (y + 1) hx (by omega)]
      by_cases c2 : 0 < y
      · rw [if_pos c2, if_pos c2, W_sym l m x (y - 1) hx (by omega)]
      · rw [if_neg c2, if_neg c2]
    · rw [if_neg c1, if_neg c1]
      by_cases c2 : 0 < y
      · rw [if_pos c2, if_pos c2, W_sym l m x (y - 1) hx (by omega)]
      · rw [if_neg c2, if_neg c2]
theorem gF_pos (l : Nat) (f : Nat → Nat) (n : Nat) : 0 < gF 2 l f n ↔ 0 < f n := by unfold gF; split <;> omega
theorem W_pos (l x : Nat) : ∀ (m y : Nat), 0 < WF 1 l x m y ↔ 0 < WF 2 l x m y
  | 0, y => Iff.rfl
  | m + 1, y => by
    have h1 := W_pos l x m (y + 1)
    have h2 := W_pos l x m (y - 1)
    have g1 := gF_pos l (WF 2 l x m) (y + 1)
    have g2 := gF_pos l (WF 2 l x m) (y - 1)
    show 0 < stepF 1 l (WF 1 l x m) y ↔ 0 < stepF 2 l (WF 2 l x m) y
    unfold stepF
    simp only [gF_one]
    by_cases c1 : y < l <;> by_cases c2 : 0 < y <;> simp only [c1, c2, if_true, if_false] <;> omega

/-! ### after impl_lowest -/
/-- A fraction in lowest terms. -/
theorem low_facts (p q : Nat) (hq : 0 < q) : ∃ g a b : Nat, 0 < g ∧ p = g * a ∧ q = g * b ∧ 0 < b ∧ lowR p q = ((a : Int), (b : Int)) := by
  have hg : 0 < Nat.gcd p q := Nat.gcd_pos_of_pos_right p hq
  have h1 := Nat.mul_div_cancel' (Nat.gcd_dvd_left p q)
  have h2 := Nat.mul_div_cancel' (Nat.gcd_dvd_right p q)
  refine ⟨Nat.gcd p q, p / Nat.gcd p q, q / Nat.gcd p q, hg, h1.symm, h2.symm, ?_, rfl⟩
  exact Nat.div_pos (Nat.le_of_dvd hq (Nat.gcd_dvd_right p q)) hg

/-! ### after impl_LikeliestAfter -/
theorem maxL_ge : ∀ (l : List Int) (m : Int), m ≤ l.foldl (fun m x => if m < x then x else m) m ∧ (∀ x ∈ l, x ≤ l.foldl (fun m x => if m < x then x else m) m) ∧ (l.foldl (fun m x => if m < x then x else m) m = m ∨ l.foldl (fun m x => if m < x then x else m) m ∈ l)
  | [], m => ⟨Int.le_refl _, fun x hx => (by cases hx), .inl rfl⟩
  | a :: t, m => by
    obtain ⟨h1, h2, h3⟩ := maxL_ge t (if m < a then a else m)
    rw [List.foldl_cons]
    generalize t.foldl (fun m x => if m < x then x else m) (if m < a then a else m) = z at h1 h2 h3 ⊢
    refine ⟨by split at h1 <;> omega, fun x hx => ?_, ?_⟩
    · rcases List.mem_cons.1 hx with rfl | hx
      · split at h1 <;> omega
      · exact h2 x hx
    · rcases h3 with h3 | h3
      · by_cases c : m < a
        · rw [if_pos c] at h3; right; rw [h3]; exact List.mem_cons_self
        · rw [if_neg c] at h3; left; exact h3
      · right; exact List.mem_cons_of_mem _ h3
/-- Some number has the greatest chance; no one has a greater one. -/
theorem most_facts (a : ByteArray) (m : Nat) : ∃ n, n ≤ lastS a ∧ likelyP a m n = true ∧ (∀ y, y ≤ lastS a → WF 2 (lastS a) (numS a) m y ≤ WF 2 (lastS a) (numS a) m n) := by
  obtain ⟨h1, h2, h3⟩ := maxL_ge (rowL (lastS a) (WF 2 (lastS a) (numS a) m)) 0
  have hm : ∀ y, y ≤ lastS a → (WF 2 (lastS a) (numS a) m y : Int) ∈ rowL (lastS a) (WF 2 (lastS a) (numS a) m) := fun y hy => List.mem_map.2 ⟨y, List.mem_range.2 (by omega), rfl⟩
  have key : ∃ n, n ≤ lastS a ∧ (WF 2 (lastS a) (numS a) m n : Int) = mostN a m := by
    rcases h3 with h3 | h3
    · have h0 := h2 _ (hm 0 (by omega))
      refine ⟨0, by omega, ?_⟩
      unfold mostN maxL
      rw [h3] at h0 ⊢
      omega
    · obtain ⟨n, hn, e⟩ := List.mem_map.1 h3
      exact ⟨n, by have := List.mem_range.1 hn; omega, e⟩
  obtain ⟨n, hn, e⟩ := key
  refine ⟨n, hn, by unfold likelyP; rw [e]; simp, fun y hy => ?_⟩
  have := h2 _ (hm y hy)
  have e2 : (WF 2 (lastS a) (numS a) m n : Int) = maxL (rowL (lastS a) (WF 2 (lastS a) (numS a) m)) := e
  unfold maxL at e2
  omega
/-- The first of the likeliest states. -/
theorem likely_first {a : ByteArray} {m : Nat} (h : smallB a a (m : Int) = true) : ∃ n, n ≤ lastS a ∧ 0 < (likelyR a (m : Int)).1.length ∧ (likelyR a (m : Int)).2 = true ∧ rdOf ByteArray.empty (likelyR a (m : Int)).1 0 = stB a.size n ∧ (∀ y, y ≤ lastS a → WF 2 (lastS a) (numS a) m y ≤ WF 2 (lastS a) (numS a) m n) := by
  obtain ⟨n0, h1, h2, h3⟩ := most_facts a m
  have hmem : n0 ∈ (List.range (lastS a + 1)).filter (likelyP a m) := List.mem_filter.2 ⟨List.mem_range.2 (by omega), h2⟩
  unfold likelyR
  rw [if_pos h, Int.toNat_natCast]
  generalize hL : (List.range (lastS a + 1)).filter (likelyP a m) = L at hmem
  cases L with
  | nil => cases hmem
  | cons n t =>
    have hn : n ∈ (List.range (lastS a + 1)).filter (likelyP a m) := by rw [hL]; exact List.mem_cons_self
    obtain ⟨hr, hp⟩ := List.mem_filter.1 hn
    have hr' := List.mem_range.1 hr
    refine ⟨n, by omega, by simp, rfl, by simp [rdOf], fun y hy => ?_⟩
    have e1 : (WF 2 (lastS a) (numS a) m n : Int) = mostN a m := by simpa [likelyP] using hp
    have e2 : (WF 2 (lastS a) (numS a) m n0 : Int) = mostN a m := by simpa [likelyP] using h2
    have := h3 y hy
    omega
theorem meanZ_int (x y l : Nat) (hx : x ≤ l) (hy : y ≤ l) : (meanZ x y l : Int) = if x ≤ y then (y : Int) * y - x * x else ((l : Int) - y) * (l - y) - (l - x) * (l - x) := by
  unfold meanZ
  by_cases c : x ≤ y
  · rw [if_pos c, if_pos c, Int.natCast_sub (sq_le c), Int.natCast_mul, Int.natCast_mul]
  · rw [if_neg c, if_neg c, Int.natCast_sub (sq_le (by omega)), Int.natCast_mul, Int.natCast_mul, Int.natCast_sub hx, Int.natCast_sub hy]
theorem mean_le (x y l : Nat) (hx : x ≤ l) (hy : y ≤ l) (hl : l ≤ 1048575) : meanZ x y l ≤ 1099509530625 := by
  have b1 := sq_le (show y ≤ 1048575 by omega)
  have b2 := sq_le (show l - y ≤ 1048575 by omega)
  unfold meanZ
  split <;> omega
theorem mean_low (x y l : Nat) (hx : x ≤ l) (hy : y ≤ l) : dist x y ≤ meanZ x y l ∧ (meanZ x y l = 0 ↔ x = y) := by
  have key : ∀ u v : Nat, u ≤ v → v - u ≤ v * v - u * u := fun u v h => by
    have h1 : v * v = u * u + (v - u) * (v + u) := by
      have e : (v - u) * (v + u) = v * v - u * u := by rw [Nat.sub_mul, Nat.mul_add, Nat.mul_add, Nat.mul_comm u v]; omega
      have := sq_le h
      omega
    by_cases c : v = u
    · omega
    · have : (v - u) * 1 ≤ (v - u) * (v + u) := Nat.mul_le_mul_left _ (by omega)
      omega
  unfold meanZ dist
  by_cases c : x ≤ y
  · have := key x y c
    rw [if_pos c, if_pos c]
    refine ⟨this, fun h => by omega, fun h => by subst h; omega⟩
  · have := key (l - x) (l - y) (by omega)
    rw [if_neg c, if_neg c]
    exact ⟨by omega, fun h => by omega, fun h => absurd h (by omega)⟩
theorem mean_mid (x y l : Nat) (h0 : 0 < x) (h1 : x < l) (hy : y ≤ l) (hne : ¬ x = y) : (meanZ (x - 1) y l : Int) + (meanZ (x + 1) y l : Int) = 2 * ((meanZ x y l : Int) - 1) := by
  rw [meanZ_int _ _ _ (by omega) hy, meanZ_int _ _ _ (by omega) hy, meanZ_int _ _ _ (by omega) hy, Int.natCast_sub (by omega), Int.natCast_add]
  rcases Nat.lt_or_gt_of_ne hne with c | c
  · rw [if_pos (by omega), if_pos (by omega), if_pos (by omega)]
    grind
  · rw [if_neg (show ¬ x + 1 ≤ y by omega), if_neg (show ¬ x ≤ y by omega)]
    by_cases c2 : x - 1 ≤ y
    · have e : (x : Int) = y + 1 := by omega
      rw [if_pos c2, e]
      grind
    · rw [if_neg c2]
      grind
theorem mean_zero (y l : Nat) (hy : y ≤ l) (hl : 0 < l) (hne : ¬ 0 = y) : (meanZ 1 y l : Int) = (meanZ 0 y l : Int) - 1 := by
  rw [meanZ_int _ _ _ (by omega) hy, meanZ_int _ _ _ (by omega) hy, if_pos (by omega), if_pos (by omega)]
  simp
theorem mean_last (y l : Nat) (hy : y ≤ l) (hl : 0 < l) (hne : ¬ l = y) : (meanZ (l - 1) y l : Int) = (meanZ l y l : Int) - 1 := by
  rw [meanZ_int _ _ _ (by omega) hy, meanZ_int _ _ _ (by omega) hy, Int.natCast_sub (by omega), if_neg (show ¬ l ≤ y by omega)]
  by_cases c : l - 1 ≤ y
  · have e : (l : Int) = y + 1 := by omega
    rw [if_pos c, e]
    grind
  · rw [if_neg c]
    grind
theorem ch_sum (n x y : Nat) (hne : ¬ x = y) (hx : x ≤ 1048575) (hy : y ≤ 1048575) (hn : n ≤ 1048575) :
    ∃ p q r t : Nat, chV n x y = ((p : Int), (q : Int)) ∧ chV n y x = ((r : Int), (t : Int)) ∧ p * t + r * q = q * t ∧ p ≤ 1048576 ∧ q ≤ 1048576 ∧ r ≤ 1048576 ∧ t ≤ 1048576 ∧ (n = x → p = q) ∧ (n = y → p = 0) := by
  unfold chV
  rw [dist_comm y x]
  have hD : 0 < dist x y ∧ dist x y ≤ 1048575 := by unfold dist; split <;> omega
  by_cases c : dist n x + dist n y = dist x y
  · rw [if_pos c, if_pos (by omega)]
    obtain ⟨g1, p, q, hg1, e1, e2, hq, l1⟩ := low_facts (dist n y) (dist x y) hD.1
    obtain ⟨g2, r, t, hg2, e3, e4, ht, l2⟩ := low_facts (dist n x) (dist x y) hD.1
    have bq : q ≤ dist x y := by rw [e2]; exact Nat.le_mul_of_pos_left q hg1
    have bt' : t ≤ dist x y := by rw [e4]; exact Nat.le_mul_of_pos_left t hg2
    have bp : p ≤ dist n y := by rw [e1]; exact Nat.le_mul_of_pos_left p hg1
    have br : r ≤ dist n x := by rw [e3]; exact Nat.le_mul_of_pos_left r hg2
    refine ⟨p, q, r, t, l1, l2, ?_, by omega, by omega, by omega, by omega, fun h => ?_, fun h => ?_⟩
    · have hk : g1 * g2 * (p * t + r * q) = g1 * g2 * (q * t) := by
        have a1 : g1 * g2 * (p * t + r * q) = (g1 * p) * (g2 * t) + (g2 * r) * (g1 * q) := by grind
        have a2 : g1 * g2 * (q * t) = (g1 * q) * (g2 * t) := by grind
        rw [a1, a2, ← e1, ← e4, ← e3, ← e2, ← Nat.add_mul, Nat.add_comm, c]
      exact Nat.eq_of_mul_eq_mul_left (Nat.mul_pos hg1 hg2) hk
    · have h0 : dist n x = 0 := by unfold dist; split <;> omega
      have : g1 * p = g1 * q := by omega
      exact Nat.eq_of_mul_eq_mul_left hg1 this
    · have h0 : dist n y = 0 := by unfold dist; split <;> omega
      have : g1 * p = 0 := by omega
      rcases Nat.mul_eq_zero.1 this with h | h <;> omega
  · rw [if_neg c, if_neg (show ¬ dist n y + dist n x = dist x y by omega)]
    by_cases c2 : dist n x < dist n y
    · rw [if_pos c2, if_neg (show ¬ dist n y < dist n x by omega)]
      exact ⟨1, 1, 0, 1, rfl, rfl, by omega, by omega, by omega, by omega, by omega, fun _ => rfl, fun h => by exfalso; revert c c2; unfold dist; (repeat' split) <;> omega⟩
    · have c3 : dist n y < dist n x := by revert c c2; unfold dist; (repeat' split) <;> omega
      rw [if_neg c2, if_pos c3]
      exact ⟨0, 1, 1, 1, rfl, rfl, by omega, by omega, by omega, by omega, by omega, fun h => by exfalso; revert c c2; unfold dist; (repeat' split) <;> omega, fun _ => rfl⟩

end Go.Proofs.YtcogjabdddikjaaDoor.PWMn
