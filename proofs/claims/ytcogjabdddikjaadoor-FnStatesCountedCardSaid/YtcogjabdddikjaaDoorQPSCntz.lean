/- What the printed functions answer, function by function: plain statements, without memory. (wip/after) -/
import Derived.Test.YtcogjabdddikjaaDoorQPSCntx
import Derived.Test.YtcogjabdddikjaaDoorQEv
import Derived.Test.YtcogjabdddikjaaDoorQState
import Derived.Test.YtcogjabdddikjaaDoorQGray
namespace Go.Proofs.YtcogjabdddikjaaDoor.PSCnt
open Go.RowKit Go.Proofs.YtcogjabdddikjaaDoorW.PrintWords Go.Proofs.YtcogjabdddikjaaDoorW.PrintLast Go.Proofs.YtcogjabdddikjaaDoorW.PrintMore
set_option linter.unusedVariables false
set_option linter.unusedSimpArgs false
/-! ### after spec_l1Cur_next -/
/-- What is drawn from: bytes, not too many. -/
def okL (l : List Int) : Prop := l.length ≤ 1048576 ∧ ∀ a ∈ l, 0 ≤ a ∧ a ≤ 255
theorem rd_ok {l : List Int} (h : okL l) (i : Int) (h0 : 0 ≤ i) (h1 : i < (l.length : Int)) : 0 ≤ rd l i ∧ rd l i ≤ 255 := by
  have hn : i.toNat < l.length := by omega
  have e : rd l i = l[i.toNat] := by simp [rd, hn]
  rw [e]; exact h.2 _ (List.getElem_mem hn)
theorem and_255 (x : Int) : 0 ≤ wrap64 (Go.bits .and .u64 x 255) ∧ wrap64 (Go.bits .and .u64 x 255) ≤ 255 := by
  have e : Go.bits .and .u64 x 255 = IntKind.u64.wrap (((BitVec.ofInt IntKind.u64.bits x).toNat &&& 255 : Nat) : Int) := by
    simp only [Go.bits, BitVec.toNat_and]
    rfl
  have h : (BitVec.ofInt IntKind.u64.bits x).toNat &&& 255 ≤ 255 := Nat.and_le_right
  rw [e]
  generalize (BitVec.ofInt IntKind.u64.bits x).toNat &&& 255 = n at h
  have e2 : IntKind.u64.wrap (n : Int) = (n : Int) := by
    simp only [IntKind.wrap, IntKind.bits, IntKind.signed]
    simp
    omega
  rw [e2, w64 (by omega) (by omega)]
  omega
theorem next_ok {l : List Int} (h : okL l) (p s : Int) (h0 : 0 ≤ p) (h1 : p ≤ 4611686018427387904) : ∃ b s', spec_l1Cur_next.f l p s = some (b, p + 1, s') ∧ 0 ≤ b ∧ b ≤ 255 := by
  have ew : wrap64 (p + 1) = p + 1 := w64 (by omega) (by omega)
  unfold spec_l1Cur_next.f
  rw [ew]
  by_cases c : p < (l.length : Int)
  · obtain ⟨r0, r1⟩ := rd_ok h p h0 c
    have er : wrap64 (rd l p) = rd l p := w64 (by omega) (by omega)
    rw [if_pos c, if_pos h0, er]
    split
    · exact ⟨_, _, rfl, r0, r1⟩
    · exact ⟨_, _, rfl, (and_255 _).1, (and_255 _).2⟩
  · rw [if_neg c]
    split
    · exact ⟨_, _, rfl, by omega, by omega⟩
    · exact ⟨_, _, rfl, (and_255 _).1, (and_255 _).2⟩

/-! ### after spec_l1Cur_pick -/
theorem pick_ok {l : List Int} (h : okL l) (p s n : Int) (h0 : 0 ≤ p) (h1 : p ≤ 2305843009213693952) : ∃ x p' s', spec_l1Cur_pick.f l p s n = some (x, p', s') ∧ 0 ≤ x ∧ (x < n ∨ x = 0) ∧ p ≤ p' ∧ p' ≤ p + 2 := by
  unfold spec_l1Cur_pick.f
  by_cases c : n ≤ 1
  · rw [if_pos c]; exact ⟨0, p, s, rfl, by omega, .inr rfl, by omega, by omega⟩
  · obtain ⟨b, s1, e1, b0, b1⟩ := next_ok h p s h0 (by omega)
    rw [if_neg c, e1, Option.bind_some]
    by_cases c2 : n > 200
    · obtain ⟨b2, s2, e2, b3, b4⟩ := next_ok h (p + 1) s1 (by omega) (by omega)
      rw [if_pos c2]
      dsimp only
      rw [e2, Option.bind_some, if_neg (by omega)]
      dsimp only
      rw [w64 (a := b * 256) (by omega) (by omega), w64 (by omega) (by omega)]
      exact ⟨_, _, _, rfl, Int.tmod_nonneg _ (by omega), .inl (Int.tmod_lt_of_pos _ (by omega)), by omega, by omega⟩
    · rw [if_neg c2, if_neg (by omega)]
      exact ⟨_, _, _, rfl, Int.tmod_nonneg _ b0, .inl (Int.tmod_lt_of_pos _ (by omega)), by dsimp only; omega, by dsimp only; omega⟩

/-! ### after spec_l1Cur_one -/
theorem one_ok {l : List Int} (h : okL l) (p s n : Int) (h0 : 0 ≤ p) (h1 : p ≤ 2305843009213693952) : ∃ x p' s', spec_l1Cur_one.f l p s n = some (x, p', s') ∧ p ≤ p' ∧ p' ≤ p + 2 := by
  obtain ⟨x, p', s', e, _, _, h2, h3⟩ := pick_ok h p s n h0 h1
  exact ⟨_, p', s', by rw [spec_l1Cur_one.f, e, Option.bind_some], h2, h3⟩

/-! ### after spec_l1Cur_of -/
/-! ### after spec_l1Cur_among -/
theorem among_ok {l : List Int} (h : okL l) (p s : Int) (L : List Int) (hn : L ≠ []) (h0 : 0 ≤ p) (h1 : p ≤ 2305843009213693952) : ∃ t p' s', spec_l1Cur_among.f l p s L = some (t, p', s') ∧ p ≤ p' ∧ p' ≤ p + 2 := by
  obtain ⟨x, p', s', e, x0, x1, h2, h3⟩ := pick_ok h p s (L.length : Int) h0 h1
  have hp := List.length_pos_iff.2 hn
  refine ⟨rd L x, p', s', ?_, h2, h3⟩
  rw [spec_l1Cur_among.f, e, Option.bind_some, if_pos x0, if_pos (by dsimp only; omega)]

/-! ### after spec_riGood -/
theorem riGood_ev (s : ByteArray) : Ev (fun k => spec_riGood.f k s) (stateB s) := by
  have e1 : ∀ k, spec_riGood.f k s = if inB (s.size : Int) 1 20 = true then spec_riGood.l0 k s 0 else some false := by
    intro k
    simp only [spec_riGood.f, spec_l1In.f, inB_ite, Option.bind_some]
  refine Ev.congr e1 ?_
  unfold stateB
  cases h : inB (s.size : Int) 1 20
  · exact Ev.now _
  · have hs : s.size ≤ 20 := by have := inB_hi h; omega
    have hz : s.size = s.data.toList.length := Lib.size_eq s
    have := any_ev (fun k i => spec_riGood.l0 k s i) s.data.toList (fun b => !isBit b) false true (fun i hi => ⟨1, fun k hk => by
      obtain ⟨k, rfl⟩ : ∃ m, k = m + 1 := ⟨k - 1, by omega⟩
      have ew : wrap64 ((i : Int) + 1) = ((i + 1 : Nat) : Int) := by rw [w64 (by omega) (by omega)]; omega
      have eb := bt_nat s i hi
      rw [spec_riGood.l0, if_pos (by omega), if_pos (by omega), eb, ew]
      have q8 := byte_toInt s.data.toList[i] 48 (by omega)
      have q9 := byte_toInt s.data.toList[i] 49 (by omega)
      simp only [Int.cast_ofNat_Int] at q8 q9
      simp only [q8, q9, isBit]
      generalize s.data.toList[i] = b
      by_cases c8 : b = 48
      · simp [c8]
      · by_cases c9 : b = 49
        · simp [c9]
        · simp [c8, c9]⟩) (fun k => by rw [spec_riGood.l0, if_neg (by omega)])
    have ha : (!(s.data.toList.any fun b => !isBit b)) = s.data.toList.all isBit := by simp [List.all_eq_not_any_not]
    simp only [Bool.true_and, if_true]
    rw [← ha]
    cases hq : s.data.toList.any fun b => !isBit b <;> simpa [hq] using this

/-! ### after impl_IsState -/
theorem isState_eq (s : ByteArray) (h : s.size ≤ 9223372036854775807) : impl_IsState.f s = some (stateB s) := by
  have ht : strings_Trim.f s (⟨#[48, 49]⟩ : ByteArray) = some ⟨(Lib.trimS s.data.toList [48, 49]).toArray⟩ := by
    unfold strings_Trim.f
    rw [if_pos ⟨h, by decide, by decide⟩]
  simp only [impl_IsState.f, impl_in.f, inB_ite, Option.bind_some, ht, trimS_beq, isBit_contains, stateB]
  cases inB (s.size : Int) 1 20 <;> simp

/-! ### after spec_riOn -/
theorem riOn_l0 (s : ByteArray) (hs : s.size ≤ 1048576) : ∀ (n i : Nat) (acc : Nat), i + n = s.data.toList.length → acc ≤ i →
    Ev (fun k => spec_riOn.l0 k s (acc : Int) (i : Int)) ((acc + (s.data.toList.drop i).count 49 : Nat) : Int) := by
  have hz : s.size = s.data.toList.length := Lib.size_eq s
  intro n
  induction n with
  | zero =>
    intro i acc hi ha
    refine Ev.last fun k => ?_
    rw [spec_riOn.l0, if_neg (by omega), List.drop_of_length_le (by omega)]
    simp
  | succ n ih =>
    intro i acc hi ha
    have hi' : i < s.data.toList.length := by omega
    have eb := bt_nat s i hi'
    have q9 := byte_toInt s.data.toList[i] 49 (by omega)
    simp only [Int.cast_ofNat_Int] at q9
    have ew : wrap64 ((i : Int) + 1) = ((i + 1 : Nat) : Int) := by rw [w64 (by omega) (by omega)]; omega
    have ea : wrap64 ((acc : Int) + 1) = ((acc + 1 : Nat) : Int) := by rw [w64 (by omega) (by omega)]; omega
    have hd : s.data.toList.drop i = s.data.toList[i] :: s.data.toList.drop (i + 1) := (List.getElem_cons_drop hi').symm
    by_cases c : s.data.toList[i] = 49
    · have := ih (i + 1) (acc + 1) (by omega) (by omega)
      refine Ev.next (f := fun k => spec_riOn.l0 k s ((acc + 1 : Nat) : Int) ((i + 1 : Nat) : Int)) ⟨0, fun k _ => ?_⟩ ?_
      · rw [spec_riOn.l0, if_pos (by omega), if_pos (by omega), eb, if_pos (q9.mpr c), ew, ea]
      · rw [hd, c, List.count_cons_self]
        have e : acc + 1 + List.count 49 (List.drop (i + 1) s.data.toList) = acc + (List.count 49 (List.drop (i + 1) s.data.toList) + 1) := by omega
        rw [← e]; exact this
    · have := ih (i + 1) acc (by omega) (by omega)
      refine Ev.next (f := fun k => spec_riOn.l0 k s (acc : Int) ((i + 1 : Nat) : Int)) ⟨0, fun k _ => ?_⟩ ?_
      · rw [spec_riOn.l0, if_pos (by omega), if_pos (by omega), eb, if_neg (fun x => c (q9.mp x)), ew]
      · rw [hd, List.count_cons_of_ne (by exact c)]; exact this
theorem riOn_ev (s : ByteArray) (hs : s.size ≤ 1048576) : Ev (fun k => spec_riOn.f k s) (onN s : Int) := by
  have := riOn_l0 s hs s.data.toList.length 0 0 (by omega) (by omega)
  have h2 : Ev (fun k => spec_riOn.l0 k s 0 0) (onN s : Int) := by simpa [onN] using this
  exact h2

/-! ### after impl_CountOn -/
theorem countOn_eq (s : ByteArray) (h : s.size ≤ 1048576) (hst : stateB s = true) : impl_CountOn.f s = some ((onN s : Int), true) := by
  have hc : strings_Count.f s (⟨#[49]⟩ : ByteArray) = some (onN s : Int) := by
    unfold strings_Count.f
    rw [if_pos (by decide)]
    rfl
  simp only [impl_CountOn.f, isState_eq s (by omega), hst, Option.bind_some, hc, if_true]

/-! ### after spec_l1Cur_sureState -/
/-- A drawn text: short, and ASCII. -/
def asc (t : ByteArray) : Prop := t.size ≤ 30 ∧ ∀ b ∈ t.data.toList, b.toNat < 128
theorem asc_bt {t : ByteArray} (h : asc t) (i : Nat) (hi : i < t.size) : 0 ≤ bt t (i : Int) ∧ bt t (i : Int) < 128 := by
  have hi' : i < t.data.toList.length := by simpa using hi
  rw [bt_nat t i hi']
  have := h.2 _ (List.getElem_mem hi')
  omega
theorem of_in {l : List Int} (h : okL l) (p s : Int) (L : List ByteArray) (P : ByteArray → Prop) (hL : ∀ t ∈ L, P t) (hn : L ≠ []) (h0 : 0 ≤ p) (h1 : p ≤ 2305843009213693952) : ∃ t p' s', spec_l1Cur_of.f l p s L = some (t, p', s') ∧ P t ∧ p ≤ p' ∧ p' ≤ p + 2 := by
  obtain ⟨x, p', s', e, x0, x1, h2, h3⟩ := pick_ok h p s (L.length : Int) h0 h1
  have hp := List.length_pos_iff.2 hn
  have hx : x.toNat < L.length := by omega
  refine ⟨rdOf ByteArray.empty L x, p', s', ?_, ?_, h2, h3⟩
  · rw [spec_l1Cur_of.f, e, Option.bind_some, if_pos x0, if_pos (by dsimp only; omega)]
  · have er : rdOf ByteArray.empty L x = L[x.toNat] := by simp [rdOf, hx]
    rw [er]; exact hL _ (List.getElem_mem hx)
def bit1 (t : ByteArray) : Prop := t.size = 1 ∧ ∀ b ∈ t.data.toList, b.toNat < 128
theorem of_bit {l : List Int} (h : okL l) (p s : Int) (h0 : 0 ≤ p) (h1 : p ≤ 2305843009213693952) : ∃ t p' s', spec_l1Cur_of.f l p s ([(⟨#[48]⟩ : ByteArray), (⟨#[49]⟩ : ByteArray)] : List ByteArray) = some (t, p', s') ∧ bit1 t ∧ p ≤ p' ∧ p' ≤ p + 2 :=
  of_in h p s _ bit1 (by
    intro t ht
    simp only [List.mem_cons, List.not_mem_nil, or_false] at ht
    rcases ht with rfl | rfl <;> exact ⟨rfl, by decide⟩) (by simp) h0 h1
theorem asc_add {t x : ByteArray} (ht : ∀ b ∈ t.data.toList, b.toNat < 128) (hx : bit1 x) : ∀ b ∈ (t ++ x).data.toList, b.toNat < 128 := by
  intro b hb
  have e : (t ++ x).data.toList = t.data.toList ++ x.data.toList := by simp
  rw [e, List.mem_append] at hb
  rcases hb with hb | hb
  · exact ht b hb
  · exact hx.2 b hb
theorem sureS_l0 {l : List Int} (h : okL l) : ∀ (d : Nat) (p s : Int) (t : ByteArray), t.size + d ≤ 30 → (∀ b ∈ t.data.toList, b.toNat < 128) → 0 ≤ p → p + 2 * d ≤ 1000000 → ∃ t' p' s', Ev (fun k => spec_l1Cur_sureState.l0 k t (d : Int) l p s) (t', p', s') ∧ asc t' ∧ p ≤ p' ∧ p' ≤ p + 2 * d
  | 0, p, s, t, hd, ht, h0, h1 => ⟨t, p, s, Ev.last fun k => by rw [spec_l1Cur_sureState.l0, if_neg (by omega)], ⟨by omega, ht⟩, by omega, by omega⟩
  | d + 1, p, s, t, hd, ht, h0, h1 => by
    obtain ⟨x, p1, s1, e1, hx, a1, a2⟩ := of_bit h p s h0 (by omega)
    have hs : (t ++ x).size = t.size + 1 := by rw [ByteArray.size_append, hx.1]
    obtain ⟨t', p', s', e, b0, b1, b2⟩ := sureS_l0 h d p1 s1 (t ++ x) (by omega) (asc_add ht hx) (by omega) (by omega)
    refine ⟨t', p', s', Ev.next ⟨0, fun k _ => ?_⟩ e, b0, by omega, by omega⟩
    have ed : wrap64 (((d + 1 : Nat) : Int) - 1) = (d : Int) := by rw [w64 (by omega) (by omega)]; omega
    rw [spec_l1Cur_sureState.l0, if_pos (by omega), e1, Option.bind_some]
    dsimp only
    rw [if_pos (by rw [hx.1]; omega), ed]
theorem sureS_ok {l : List Int} (h : okL l) (p s : Int) (m : Int) (hm : m ≤ 20) (h0 : 0 ≤ p) (h1 : p ≤ 100000) : ∃ t p' s', Ev (fun k => spec_l1Cur_sureState.f k l p s m) (t, p', s') ∧ asc t ∧ p ≤ p' ∧ p' ≤ p + 50 := by
  obtain ⟨x, p1, s1, e1, x0, x1, a1, a2⟩ := pick_ok h p s m h0 (by omega)
  obtain ⟨q, rfl⟩ : ∃ q : Nat, x = q := ⟨x.toNat, by omega⟩
  obtain ⟨t', p', s', ⟨K, hK⟩, b0, b1, b2⟩ := sureS_l0 h (q + 1) p1 s1 ⟨#[]⟩ (by have : (⟨#[]⟩ : ByteArray).size = 0 := rfl; omega) (by intro b hb; simp at hb) (by omega) (by omega)
  refine ⟨t', p', s', ⟨K, fun k hk => ?_⟩, b0, by omega, by omega⟩
  have hK := hK k hk
  simp only at hK
  dsimp only
  have ew : wrap64 (1 + (q : Int)) = ((q + 1 : Nat) : Int) := by rw [w64 (by omega) (by omega)]; omega
  rw [spec_l1Cur_sureState.f, e1, Option.bind_some]
  dsimp only
  rw [ew]
  exact hK

/-! ### after spec_l1Cur_state -/
theorem dstate_ok {l : List Int} (h : okL l) (p s : Int) (h0 : 0 ≤ p) (h1 : p ≤ 50000) : ∃ t p' s', Ev (fun k => spec_l1Cur_state.f k l p s) (t, p', s') ∧ asc t ∧ p ≤ p' ∧ p' ≤ p + 60 := by
  obtain ⟨c, p1, s1, e1, a1, a2⟩ := one_ok h p s 12 h0 (by omega)
  cases c with
  | true =>
    obtain ⟨t, p2, s2, e2, ht, b1, b2⟩ := of_in h p1 s1 ([(⟨#[]⟩ : ByteArray), (⟨#[50]⟩ : ByteArray), (⟨#[48, 120]⟩ : ByteArray), (⟨#[49, 49, 49, 49, 49, 49, 49, 49, 49, 49, 49, 49, 49, 49, 49, 49, 49, 49, 49, 49, 49]⟩ : ByteArray), (⟨#[49, 49, 49, 49, 49, 49, 49, 49, 49, 49, 49, 49, 49, 49, 49, 49, 49, 49, 49, 49]⟩ : ByteArray), (⟨#[48, 48, 48, 48, 48, 48, 48, 48, 48, 48, 48, 48, 48, 48, 48, 48, 48, 48, 48, 49]⟩ : ByteArray)] : List ByteArray) asc (by
      intro t ht
      simp only [List.mem_cons, List.not_mem_nil, or_false] at ht
      rcases ht with rfl | rfl | rfl | rfl | rfl | rfl <;> exact ⟨by decide, by decide⟩) (by simp) (by omega) (by omega)
    refine ⟨t, p2, s2, ⟨0, fun k _ => ?_⟩, ht, by omega, by omega⟩
    dsimp only
    rw [spec_l1Cur_state.f, e1, Option.bind_some, if_pos rfl]
    dsimp only
    rw [e2, Option.bind_some]
  | false =>
    obtain ⟨t, p2, s2, ⟨K, hK⟩, ht, b1, b2⟩ := sureS_ok h p1 s1 8 (by omega) (by omega) (by omega)
    refine ⟨t, p2, s2, ⟨K, fun k hk => ?_⟩, ht, by omega, by omega⟩
    have hK := hK k hk
    simp only at hK
    dsimp only
    rw [spec_l1Cur_state.f, e1, Option.bind_some, if_neg (by simp)]
    dsimp only
    rw [hK, Option.bind_some]

/-! ### after spec_l1Cur_states -/
theorem states_l0 {l : List Int} (h : okL l) (a : ByteArray) (ha : asc a) : ∀ (d i : Nat) (p s : Int) (t : ByteArray), i + d = a.size → t.size ≤ i → (∀ b ∈ t.data.toList, b.toNat < 128) → 0 ≤ p → p + 2 * d ≤ 1000000 → ∃ t' p' s', Ev (fun k => spec_l1Cur_states.l0 k a t a (i : Int) l p s) (a, t', p', s') ∧ asc t' ∧ p ≤ p' ∧ p' ≤ p + 2 * d
  | 0, i, p, s, t, hi, ht, hb, h0, h1 => ⟨t, p, s, Ev.last fun k => by rw [spec_l1Cur_states.l0, if_neg (by omega)], ⟨by have := ha.1; omega, hb⟩, by omega, by omega⟩
  | d + 1, i, p, s, t, hi, ht, hb, h0, h1 => by
    have h30 := ha.1
    obtain ⟨x, p1, s1, e1, hx, a1, a2⟩ := of_bit h p s h0 (by omega)
    have hs : (t ++ x).size = t.size + 1 := by rw [ByteArray.size_append, hx.1]
    obtain ⟨t', p', s', e, b0, b1, b2⟩ := states_l0 h a ha d (i + 1) p1 s1 (t ++ x) (by omega) (by omega) (asc_add hb hx) (by omega) (by omega)
    refine ⟨t', p', s', Ev.next ⟨0, fun k _ => ?_⟩ e, b0, by omega, by omega⟩
    have ed : wrap64 ((i : Int) + 1) = ((i + 1 : Nat) : Int) := by rw [w64 (by omega) (by omega)]; omega
    have hbt := asc_bt ha i (by omega)
    rw [spec_l1Cur_states.l0, if_pos (by omega), if_pos (by omega), if_pos hbt.2, if_pos (by omega), e1, Option.bind_some]
    dsimp only
    rw [if_pos (by rw [hx.1]; omega), ed]
theorem dstates_ok {l : List Int} (h : okL l) (p s : Int) (h0 : 0 ≤ p) (h1 : p ≤ 10000) : ∃ a b p' s', Ev (fun k => spec_l1Cur_states.f k l p s) (a, b, p', s') ∧ asc a ∧ asc b ∧ p ≤ p' ∧ p' ≤ p + 200 := by
  obtain ⟨a, p1, s1, ⟨K1, e1⟩, ha, a1, a2⟩ := dstate_ok h p s h0 (by omega)
  obtain ⟨c, p2, s2, e2, b1, b2⟩ := one_ok h p1 s1 12 (by omega) (by omega)
  have h30 := ha.1
  cases c with
  | true =>
    obtain ⟨b, p3, s3, ⟨K3, e3⟩, hb, c1, c2⟩ := dstate_ok h p2 s2 (by omega) (by omega)
    refine ⟨a, b, p3, s3, ⟨K1 + K3, fun k hk => ?_⟩, ha, hb, by omega, by omega⟩
    have e1 := e1 k (by omega)
    have e3 := e3 k (by omega)
    simp only at e1 e3
    dsimp only
    rw [spec_l1Cur_states.f, e1, Option.bind_some]
    dsimp only
    rw [e2, Option.bind_some, if_pos rfl]
    dsimp only
    rw [e3, Option.bind_some]
  | false =>
    obtain ⟨b, p3, s3, ⟨K3, e3⟩, hb, c1, c2⟩ := states_l0 h a ha a.size 0 p2 s2 ⟨#[]⟩ (by omega) (by decide) (by intro b hb; simp at hb) (by omega) (by omega)
    refine ⟨a, b, p3, s3, ⟨K1 + K3, fun k hk => ?_⟩, ha, hb, by omega, by omega⟩
    have e1 := e1 k (by omega)
    have e3 := e3 k (by omega)
    simp only at e1 e3
    dsimp only
    rw [spec_l1Cur_states.f, e1, Option.bind_some]
    dsimp only
    rw [e2, Option.bind_some, if_neg (by simp)]
    exact e3

/-! ### after spec_DrawMeanOnAlong -/
theorem drawAlong_ok {l : List Int} (h : okL l) : ∃ a b, Ev (fun k => spec_DrawMeanOnAlong.f k l) (a, b) ∧ asc a ∧ asc b := by
  obtain ⟨a, b, p, s, ⟨K, e⟩, ha, hb, _, _⟩ := dstates_ok h 0 0 (by omega) (by omega)
  refine ⟨a, b, ⟨K, fun k hk => ?_⟩, ha, hb⟩
  have e := e k hk
  simp only at e
  dsimp only
  rw [spec_DrawMeanOnAlong.f, spec_DrawFewestMoves.f, e, Option.bind_some, Option.bind_some]

/-! ### after spec_DrawMeanNumber -/
theorem drawMeanN_ok {l : List Int} (h : okL l) : ∃ n, spec_DrawMeanNumber.f l = some n := by
  obtain ⟨t, p, s, e, _, _⟩ := among_ok h 0 0 ([1, 2, 3, 5, 8, 12, 13, 0, (-1)] : List Int) (by simp) (by omega) (by omega)
  exact ⟨t, by rw [spec_DrawMeanNumber.f, e, Option.bind_some]⟩

/-! ### after spec_DrawStatesWithOn -/
theorem drawWithOn_ok {l : List Int} (h : okL l) : ∃ r m, spec_DrawStatesWithOn.f l = some (r, m) := by
  obtain ⟨t, p, s, e, a1, a2⟩ := among_ok h 0 0 ([1, 2, 3, 4, 5, 6, 7, 13, 0] : List Int) (by simp) (by omega) (by omega)
  obtain ⟨u, q, z, f, _, _⟩ := among_ok h p s ([0, 1, 2, 3, 4, 7, (-1), 8] : List Int) (by simp) (by omega) (by omega)
  exact ⟨t, u, by rw [spec_DrawStatesWithOn.f, spec_DrawCountWithOn.f, e, Option.bind_some, f, Option.bind_some, Option.bind_some]⟩

/-! ### after impl_bits -/
/-- A state as a number, ring k being worth 2 to the power k. -/
def bitN : List UInt8 → Nat
  | [] => 0
  | b :: t => (b.toNat - 48) + 2 * bitN t
theorem bitN_lt : ∀ s : List UInt8, s.all isBit = true → bitN s < 2 ^ s.length
  | [], _ => by simp [bitN]
  | b :: t, h => by
    rw [List.all_cons, Bool.and_eq_true] at h
    have := bitN_lt t h.2
    rw [bitN, List.length_cons, Nat.pow_succ]
    rcases bit_cases h.1 with rfl | rfl
    · show (48 - 48) + 2 * bitN t < _; omega
    · show (49 - 48) + 2 * bitN t < _; omega
theorem pow20 {n : Nat} (h : n ≤ 20) : 2 ^ n ≤ 1048576 := Nat.le_trans (Nat.pow_le_pow_right (by omega) h) (by decide)
theorem pow2_le {a b : Nat} (h : a ≤ b) : 2 ^ a ≤ 2 ^ b := Nat.pow_le_pow_right (by omega) h
theorem bits_l0 (s : ByteArray) (hs : s.size ≤ 20) (hb : s.data.toList.all isBit = true) : ∀ i : Nat, i ≤ s.data.toList.length → Ev (fun k => impl_bits.l0 k s (bitN (s.data.toList.drop i) : Int) ((i : Int) - 1)) (bitN s.data.toList : Int)
  | 0, _ => Ev.last fun k => by rw [impl_bits.l0, if_neg (by omega), List.drop_zero]
  | i + 1, h => by
    have hz := Lib.size_eq s
    have hlt : i < s.data.toList.length := by omega
    have hall : ∀ x ∈ s.data.toList.drop i, isBit x = true := fun x hx => List.all_eq_true.1 hb x (List.mem_of_mem_drop hx)
    have hl := bitN_lt (s.data.toList.drop i) (List.all_eq_true.2 hall)
    have hp := pow20 (n := (s.data.toList.drop i).length) (by rw [List.length_drop]; omega)
    have hd := List.drop_eq_getElem_cons hlt
    have e : bitN (s.data.toList.drop i) = (s.data.toList[i].toNat - 48) + 2 * bitN (s.data.toList.drop (i + 1)) := by rw [hd, bitN]
    have hbit := hall s.data.toList[i] (by rw [hd]; exact List.mem_cons_self)
    have eb := bt_nat s i hlt
    have ei : ((i + 1 : Nat) : Int) - 1 = (i : Int) := by omega
    refine Ev.next ⟨0, fun k _ => ?_⟩ (bits_l0 s hs hb i (by omega))
    rw [impl_bits.l0, ei, if_pos (by omega), if_pos (by omega), if_pos (by omega), eb, e]
    have h48 : 48 ≤ s.data.toList[i].toNat ∧ s.data.toList[i].toNat ≤ 49 := by
      rcases bit_cases hbit with h | h <;> rw [h] <;> decide
    rw [w64 (a := 2 * (bitN (s.data.toList.drop (i + 1)) : Int)) (by omega) (by omega), w64 (by omega) (by omega), w64 (by omega) (by omega)]
    congr 1
    omega
theorem bits_ev (s : ByteArray) (hs : s.size ≤ 20) (hb : s.data.toList.all isBit = true) : Ev (fun k => impl_bits.f k s) (bitN s.data.toList : Int) := by
  have hz := Lib.size_eq s
  obtain ⟨K, hK⟩ := bits_l0 s hs hb s.data.toList.length (Nat.le_refl _)
  refine ⟨K, fun k hk => ?_⟩
  have := hK k hk
  rw [List.drop_length] at this
  unfold impl_bits.f
  rw [hz, w64 (by omega) (by omega)]
  exact this

/-! ### after impl_unreflected -/
def unR : Nat → Nat → Nat
  | 0, _ => 0
  | f + 1, g => g ^^^ unR f (g / 2)
theorem unR_zero : ∀ f, unR f 0 = 0
  | 0 => rfl
  | f + 1 => by rw [unR, Nat.zero_div, unR_zero f]; rfl
theorem unR_half : ∀ (f g : Nat), g < 2 ^ (f + 1) → unR (f + 1) g / 2 = unR f (g / 2)
  | 0, g, h => by
    have : g < 2 := by simpa using h
    simp only [unR, Nat.xor_zero]; omega
  | f + 1, g, h => by
    rw [Nat.pow_succ] at h
    rw [unR, Nat.xor_div_two, unR_half f (g / 2) (by omega), unR]
theorem unR_fix : ∀ (f g : Nat), g < 2 ^ f → g ^^^ (unR f g / 2) = unR f g
  | 0, g, h => by
    have : g = 0 := by simpa using h
    subst this; rfl
  | f + 1, g, h => by rw [unR_half f g h, unR]
theorem xor_i64 (a b : Nat) (ha : a < 4611686018427387904) (hb : b < 4611686018427387904) : Go.bits .xor .i64 (a : Int) (b : Int) = ((a ^^^ b : Nat) : Int) := by
  have ha' : a % 2 ^ IntKind.i64.bits = a := Nat.mod_eq_of_lt (Nat.lt_of_lt_of_le ha (by decide))
  have hb' : b % 2 ^ IntKind.i64.bits = b := Nat.mod_eq_of_lt (Nat.lt_of_lt_of_le hb (by decide))
  have hx : a ^^^ b < 2 ^ 62 := Nat.xor_lt_two_pow (by simpa using ha) (by simpa using hb)
  simp only [Go.bits, BitVec.ofInt_natCast, BitVec.toNat_xor, BitVec.toNat_ofNat, ha', hb']
  have e62 : (2 : Nat) ^ 62 = 4611686018427387904 := by decide
  rw [i64_w, w64 (by omega) (by omega)]
theorem unref_l0 : ∀ (f g n : Nat), f ≤ 40 → g < 2 ^ f → n < 2 ^ 40 → Ev (fun k => impl_unreflected.l0 k (g : Int) (n : Int)) ((n ^^^ unR f g : Nat) : Int)
  | 0, g, n, _, hg, _ => by
    have : g = 0 := by simpa using hg
    subst this
    refine Ev.last fun k => ?_
    rw [impl_unreflected.l0, if_neg (by omega), unR, Nat.xor_zero]
  | f + 1, g, n, hf, hg, hn => by
    have h1 := pow2_le hf
    have e40 : (2 : Nat) ^ 40 = 1099511627776 := by decide
    by_cases c : g = 0
    · subst c
      refine Ev.last fun k => ?_
      rw [impl_unreflected.l0, if_neg (by omega), unR_zero, Nat.xor_zero]
    · have hx : n ^^^ g < 2 ^ 40 := Nat.xor_lt_two_pow hn (by omega)
      have e : n ^^^ unR (f + 1) g = (n ^^^ g) ^^^ unR f (g / 2) := by rw [unR, Nat.xor_assoc]
      rw [e]
      have hg2 : g / 2 < 2 ^ f := by rw [Nat.pow_succ] at hg; omega
      refine Ev.next ⟨0, fun k _ => ?_⟩ (unref_l0 f (g / 2) (n ^^^ g) (by omega) hg2 hx)
      have et : Int.tdiv (g : Int) 2 = ((g / 2 : Nat) : Int) := rfl
      rw [impl_unreflected.l0, if_pos (by omega), xor_i64 n g (by omega) (by omega), et, w64 (by omega) (by omega)]

/-! ### after impl_number -/
theorem unR_grN : ∀ s : List UInt8, s.all isBit = true → unR s.length (bitN s) = grN s
  | [], _ => rfl
  | b :: t, h => by
    rw [List.all_cons, Bool.and_eq_true] at h
    have ih := unR_grN t h.2
    have hl := bitN_lt t h.2
    have hf := unR_fix t.length (bitN t) hl
    rw [ih] at hf
    have hb : b.toNat - 48 < 2 ∧ (b.toNat - 48) % 2 = b.toNat % 2 := by
      rcases bit_cases h.1 with rfl | rfl <;> decide
    have e1 : bitN (b :: t) / 2 = bitN t := by rw [bitN]; omega
    have e2 : bitN (b :: t) % 2 = b.toNat % 2 := by rw [bitN]; omega
    rw [List.length_cons, unR, e1, ih]
    show bitN (b :: t) ^^^ grN t = 2 * grN t + (b.toNat + grN t) % 2
    have d : (bitN (b :: t) ^^^ grN t) / 2 = grN t := by rw [Nat.xor_div_two, e1, hf]
    have m : (bitN (b :: t) ^^^ grN t) % 2 = (b.toNat + grN t) % 2 := by
      have q := @Nat.xor_mod_two_eq_one (bitN (b :: t)) (grN t)
      generalize (bitN (b :: t) ^^^ grN t) = x at q ⊢
      generalize bitN (b :: t) = y at q e2
      generalize grN t = z at q ⊢
      by_cases c1 : y % 2 = 1
      · by_cases c2 : z % 2 = 1
        · have : ¬ x % 2 = 1 := fun h => q.1 h ⟨fun _ => c2, fun _ => c1⟩
          omega
        · have : x % 2 = 1 := q.2 (fun h => c2 (h.1 c1))
          omega
      · by_cases c2 : z % 2 = 1
        · have : x % 2 = 1 := q.2 (fun h => c1 (h.2 c2))
          omega
        · have : ¬ x % 2 = 1 := fun h => q.1 h ⟨fun h => absurd h c1, fun h => absurd h c2⟩
          omega
    omega
theorem state_facts {s : ByteArray} (h : stateB s = true) : 1 ≤ s.size ∧ s.size ≤ 20 ∧ s.data.toList.all isBit = true ∧ s.data.toList.length = s.size := by
  simp only [stateB, Bool.and_eq_true] at h
  have h1 := inB_lo h.1
  have h2 := inB_hi h.1
  exact ⟨by omega, by omega, h.2, (Lib.size_eq s).symm⟩
theorem number_ev {s : ByteArray} (h : stateB s = true) : Ev (fun k => impl_number.f k s) (grN s.data.toList : Int) := by
  obtain ⟨h1, h2, h3, h4⟩ := state_facts h
  obtain ⟨K1, e1⟩ := bits_ev s h2 h3
  have hl := bitN_lt s.data.toList h3
  obtain ⟨K2, e2⟩ := unref_l0 s.data.toList.length (bitN s.data.toList) 0 (by omega) hl (by decide)
  refine ⟨K1 + K2, fun k hk => ?_⟩
  have e1 := e1 k (by omega)
  have e2 := e2 k (by omega)
  simp only at e1 e2
  rw [Nat.zero_xor, unR_grN _ h3] at e2
  dsimp only
  rw [impl_number.f, e1, Option.bind_some]
  unfold impl_unreflected.f
  have e0 : ((0 : Nat) : Int) = 0 := rfl
  rw [e0] at e2
  rw [e2]
  rfl

/-! ### after spec_riNumber -/
theorem riNumber_l0 (s : ByteArray) (hs : s.size ≤ 20) (hb : s.data.toList.all isBit = true) : ∀ i : Nat, i ≤ s.data.toList.length →
    Ev (fun k => spec_riNumber.l0 k s (grN (s.data.toList.drop i) : Int) ((grN (s.data.toList.drop i) % 2 : Nat) : Int) ((i : Int) - 1)) (grN s.data.toList : Int)
  | 0, _ => Ev.last fun k => by rw [spec_riNumber.l0, if_neg (by omega), List.drop_zero]
  | i + 1, h => by
    have hz := Lib.size_eq s
    have hlt : i < s.data.toList.length := by omega
    have hall : ∀ x ∈ s.data.toList.drop i, isBit x = true := fun x hx => List.all_eq_true.1 hb x (List.mem_of_mem_drop hx)
    have hl := grN_lt (s.data.toList.drop i)
    have hp : 2 ^ (s.data.toList.drop i).length ≤ 1048576 := Nat.le_trans (Nat.pow_le_pow_right (by omega) (show (s.data.toList.drop i).length ≤ 20 by rw [List.length_drop]; omega)) (by decide)
    have hd := List.drop_eq_getElem_cons hlt
    have e : grN (s.data.toList.drop i) = 2 * grN (s.data.toList.drop (i + 1)) + (s.data.toList[i].toNat + grN (s.data.toList.drop (i + 1))) % 2 := by rw [hd, grN]
    have hbit := hall s.data.toList[i] (by rw [hd]; exact List.mem_cons_self)
    have eb := bt_nat s i hlt
    have ei : ((i + 1 : Nat) : Int) - 1 = (i : Int) := by omega
    refine Ev.next ⟨0, fun k _ => ?_⟩ (riNumber_l0 s hs hb i (by omega))
    rw [spec_riNumber.l0, ei, if_pos (by omega), if_pos (by omega), if_pos (by omega), eb]
    generalize grN (s.data.toList.drop (i + 1)) = m at e ⊢
    generalize grN (s.data.toList.drop i) = n at e hl ⊢
    rcases bit_cases hbit with hq | hq
    · rw [hq] at e ⊢
      have e48 : (48 : UInt8).toNat = 48 := rfl
      rw [e48] at e ⊢
      rw [if_neg (by omega), w64 (a := 2 * (m : Int)) (by omega) (by omega), w64 (by omega) (by omega), w64 (by omega) (by omega)]
      rw [show 2 * (m : Int) + ((m % 2 : Nat) : Int) = (n : Int) by omega, show ((m % 2 : Nat) : Int) = ((n % 2 : Nat) : Int) by omega]
    · rw [hq] at e ⊢
      have e49 : (49 : UInt8).toNat = 49 := rfl
      rw [e49] at e ⊢
      rw [if_pos (by omega), w64 (a := 2 * (m : Int)) (by omega) (by omega), w64 (a := 1 - ((m % 2 : Nat) : Int)) (by omega) (by omega), w64 (by omega) (by omega), w64 (by omega) (by omega)]
      rw [show 2 * (m : Int) + (1 - ((m % 2 : Nat) : Int)) = (n : Int) by omega, show 1 - ((m % 2 : Nat) : Int) = ((n % 2 : Nat) : Int) by omega]
theorem riNumber_ev {s : ByteArray} (h : stateB s = true) : Ev (fun k => spec_riNumber.f k s) (grN s.data.toList : Int) := by
  obtain ⟨h1, h2, h3, h4⟩ := state_facts h
  obtain ⟨K, hK⟩ := riNumber_l0 s h2 h3 s.data.toList.length (Nat.le_refl _)
  refine ⟨K, fun k hk => ?_⟩
  have := hK k hk
  rw [List.drop_length] at this
  unfold spec_riNumber.f
  rw [← h4, w64 (by omega) (by omega)]
  exact this

/-! ### after impl_alike -/
def twoB (a b : ByteArray) : Bool := stateB a && (stateB b && ((a.size : Int) == (b.size : Int)))
theorem alike_eq (a b : ByteArray) (ha : a.size ≤ 1048576) (hb : b.size ≤ 1048576) : impl_alike.f a b = some (twoB a b) := by
  unfold impl_alike.f twoB
  rw [isState_eq a (by omega), isState_eq b (by omega)]
  simp only [Option.bind_some]
  cases stateB a <;> cases stateB b <;> simp
theorem two_facts {a b : ByteArray} (h : twoB a b = true) : stateB a = true ∧ stateB b = true ∧ a.size = b.size := by
  simp only [twoB, Bool.and_eq_true, beq_iff_eq] at h
  exact ⟨h.1, h.2.1, by omega⟩
theorem shl_pow2 {n : Nat} (h : n ≤ 60) : shl .i64 1 (n : Int) = ((2 ^ n : Nat) : Int) := by
  have h2 : 2 ^ n ≤ 2 ^ 60 := Nat.pow_le_pow_right (by omega) h
  have e60 : (2 : Nat) ^ 60 = 1152921504606846976 := by decide
  have e : (1 : Int) * 2 ^ n = ((2 ^ n : Nat) : Int) := by rw [Int.one_mul, Int.natCast_pow]; rfl
  have hm : min ((n : Int).toNat) IntKind.i64.bits = n := by
    rw [Int.toNat_natCast]; exact Nat.min_eq_left (Nat.le_trans h (by decide))
  have hw0 : ∀ q : Nat, q ≤ 1152921504606846976 → wrap64 (q : Int) = (q : Int) := fun q hq => w64 (by omega) (by omega)
  have hw := hw0 (2 ^ n) (by rw [← e60]; exact h2)
  have hs : shl .i64 1 (n : Int) = IntKind.i64.wrap ((1 : Int) * 2 ^ min ((n : Int).toNat) IntKind.i64.bits) := rfl
  rw [hs, hm, e, i64_w, hw]
/-- The number of a state, and the greatest one. -/
def numS (s : ByteArray) : Nat := grN s.data.toList
def lastS (s : ByteArray) : Nat := 2 ^ s.size - 1
theorem last_facts {s : ByteArray} (h : stateB s = true) : 1 ≤ lastS s ∧ lastS s ≤ 1048575 ∧ numS s ≤ lastS s ∧ 2 ^ s.size = lastS s + 1 ∧ wrap64 (shl .i64 1 (s.size : Int) - 1) = (lastS s : Int) := by
  obtain ⟨h1, h2, h3, h4⟩ := state_facts h
  have hp : 2 ^ s.size ≤ 2 ^ 20 := Nat.pow_le_pow_right (by omega) h2
  have hq : 2 ^ 1 ≤ 2 ^ s.size := Nat.pow_le_pow_right (by omega) h1
  have e20 : (2 : Nat) ^ 20 = 1048576 := by decide
  have hl := grN_lt s.data.toList
  rw [h4] at hl
  rw [shl_pow2 (by omega)]
  unfold lastS numS
  refine ⟨by omega, by omega, by omega, by omega, ?_⟩
  rw [w64 (by omega) (by omega)]
  omega
/-! ### after spec_riTwo -/
theorem riTwo_ev (a b : ByteArray) : Ev (fun k => spec_riTwo.f k a b) (twoB a b) := by
  obtain ⟨K1, h1⟩ := riGood_ev a
  obtain ⟨K2, h2⟩ := riGood_ev b
  refine ⟨K1 + K2, fun k hk => ?_⟩
  have h1 := h1 k (by omega)
  have h2 := h2 k (by omega)
  simp only at h1 h2
  simp only [spec_riTwo.f, h1, h2, Option.bind_some, twoB]
  cases stateB a <;> cases stateB b <;> simp

/-! ### after spec_waNumbers -/
theorem waNumbers_ev {a b : ByteArray} (h1 : stateB a = true) (h2 : stateB b = true) : Ev (fun k => spec_waNumbers.f k a b) ((numS a : Int), (numS b : Int), (lastS a : Int)) := by
  obtain ⟨K1, e1⟩ := riNumber_ev h1
  obtain ⟨K2, e2⟩ := riNumber_ev h2
  obtain ⟨l1, l2, l3, l4, l5⟩ := last_facts h1
  refine ⟨K1 + K2, fun k hk => ?_⟩
  have e1 := e1 k (by omega)
  have e2 := e2 k (by omega)
  simp only at e1 e2
  simp only [spec_waNumbers.f, e1, e2, Option.bind_some, l5]
  rfl

/-! ### after impl_apart -/
def dist (n m : Nat) : Nat := if n ≤ m then m - n else n - m
theorem apart_eq (n m : Nat) (hn : n ≤ 1048575) (hm : m ≤ 1048575) : impl_apart.f (n : Int) (m : Int) = some (dist n m : Int) := by
  unfold impl_apart.f dist
  rw [w64 (by omega) (by omega), w64 (by omega) (by omega)]
  congr 1
  unfold mx
  split <;> split <;> omega

/-! ### after impl_lowest -/
def lowR (p q : Nat) : Int × Int := (((p / Nat.gcd p q : Nat) : Int), ((q / Nat.gcd p q : Nat) : Int))
theorem low_l0 (p q : Nat) (hp : p ≤ 1152921504606846976) (hq : q ≤ 1152921504606846976) : ∀ (m n : Nat), 0 < n + m → Nat.gcd n m = Nat.gcd p q → Ev (fun k => impl_lowest.l0 k (p : Int) (q : Int) (n : Int) (m : Int)) (lowR p q) := by
  intro m
  induction m using Nat.strongRecOn with
  | ind m ih =>
    intro n hn hg
    by_cases c : m = 0
    · subst c
      rw [Nat.gcd_zero_right] at hg
      refine Ev.last fun k => ?_
      have e1 : Int.tdiv (p : Int) (n : Int) = ((p / n : Nat) : Int) := rfl
      have e2 : Int.tdiv (q : Int) (n : Int) = ((q / n : Nat) : Int) := rfl
      have b1 := Nat.div_le_self p n
      have b2 := Nat.div_le_self q n
      rw [impl_lowest.l0, if_neg (by omega), if_neg (by omega), e1, e2]
      unfold lowR
      rw [← hg]
      generalize p / n = x at b1 ⊢
      generalize q / n = y at b2 ⊢
      rw [w64 (a := (x : Int)) (by omega) (by omega), w64 (a := (y : Int)) (by omega) (by omega)]
    · have hm := Nat.mod_lt n (show 0 < m by omega)
      refine Ev.next ⟨0, fun k _ => ?_⟩ (ih (n % m) hm m (by omega) ?_)
      · have e : Int.tmod (n : Int) (m : Int) = ((n % m : Nat) : Int) := rfl
        rw [impl_lowest.l0, if_pos (by omega), if_neg (by omega), e]
      · rw [← hg, Nat.gcd_comm n m, Nat.gcd_rec m n, Nat.gcd_comm]
theorem low_ev (p q : Nat) (hp : p ≤ 1152921504606846976) (hq : q ≤ 1152921504606846976) (h0 : 0 < p + q) : Ev (fun k => impl_lowest.f k (p : Int) (q : Int)) (lowR p q) := low_l0 p q hp hq q p h0 rfl

/-! ### after spec_waLow -/
theorem waLow_l0 (p q : Nat) (hp : p ≤ 1152921504606846976) (hq : q ≤ 1152921504606846976) : ∀ (m n : Nat), 0 < n + m → Nat.gcd n m = Nat.gcd p q → Ev (fun k => spec_waLow.l0 k (p : Int) (q : Int) (n : Int) (m : Int)) (lowR p q) := by
  intro m
  induction m using Nat.strongRecOn with
  | ind m ih =>
    intro n hn hg
    by_cases c : m = 0
    · subst c
      rw [Nat.gcd_zero_right] at hg
      refine Ev.last fun k => ?_
      have e1 : Int.tdiv (p : Int) (n : Int) = ((p / n : Nat) : Int) := rfl
      have e2 : Int.tdiv (q : Int) (n : Int) = ((q / n : Nat) : Int) := rfl
      have b1 := Nat.div_le_self p n
      have b2 := Nat.div_le_self q n
      rw [spec_waLow.l0, if_neg (by omega), if_neg (by omega), e1, e2]
      unfold lowR
      rw [← hg]
      generalize p / n = x at b1 ⊢
      generalize q / n = y at b2 ⊢
      rw [w64 (a := (x : Int)) (by omega) (by omega), w64 (a := (y : Int)) (by omega) (by omega)]
    · have hm := Nat.mod_lt n (show 0 < m by omega)
      refine Ev.next ⟨0, fun k _ => ?_⟩ (ih (n % m) hm m (by omega) ?_)
      · have e : Int.tmod (n : Int) (m : Int) = ((n % m : Nat) : Int) := rfl
        rw [spec_waLow.l0, if_pos (by omega), if_neg (by omega), e]
      · rw [← hg, Nat.gcd_comm n m, Nat.gcd_rec m n, Nat.gcd_comm]
theorem waLow_ev (p q : Nat) (hp : p ≤ 1152921504606846976) (hq : q ≤ 1152921504606846976) (h0 : 0 < p + q) : Ev (fun k => spec_waLow.f k (p : Int) (q : Int)) (lowR p q) := waLow_l0 p q hp hq q p h0 rfl

/-! ### after impl_apart -/
theorem abs_eq (n m : Nat) (hn : n ≤ 1048575) (hm : m ≤ 1048575) : spec_l1Abs.f (wrap64 ((n : Int) - m)) = some (dist n m : Int) := by
  rw [w64 (by omega) (by omega)]
  unfold spec_l1Abs.f spec_l1Most.f dist
  rw [w64 (by omega) (by omega)]
  split <;> split <;> (rw [Option.bind_some]; congr 1; omega)
/-! ### after impl_state -/
theorem srd (a : List Int) (j i : Nat) (v : Int) (hj : j < a.length) : rd (a.set j v) (i : Int) = if i = j then v else rd a (i : Int) := by
  by_cases c : i = j
  · subst c; simp [rd, hj]
  · rw [if_neg c]
    simp [rd, List.getElem?_set_ne (show j ≠ i from fun e => c e.symm)]

/-! ### after impl_state -/
/-- The state of so many rings with a number. -/
def stB (L n : Nat) : ByteArray := ⟨(grS L n).toArray⟩
theorem stB_list (L n : Nat) : (stB L n).data.toList = grS L n := rfl
theorem stB_size (L n : Nat) : (stB L n).size = L := by
  have := Lib.size_eq (stB L n)
  rw [this, stB_list, grS_length]
theorem stB_state (L n : Nat) (h1 : 1 ≤ L) (h : L ≤ 20) : stateB (stB L n) = true := by
  unfold stateB
  rw [stB_size, stB_list, grS_all, inB_of (by omega) (by omega)]; rfl
theorem stB_num (L n : Nat) (h : n < 2 ^ L) : numS (stB L n) = n := by unfold numS; rw [stB_list, grN_grS L n h]
/-- Ring i of the state with number n. -/
def bitB (n i : Nat) : UInt8 := if (n / 2 ^ i + n / 2 ^ i / 2) % 2 = 1 then 49 else 48
theorem grS_at : ∀ (L n i : Nat) (h : i < (grS L n).length), (grS L n)[i] = bitB n i
  | 0, n, i, h => by rw [grS_length] at h; omega
  | L + 1, n, 0, h => by simp [grS, bitB]
  | L + 1, n, i + 1, h => by
    have h' : i < (grS L (n / 2)).length := by rw [grS_length] at h ⊢; omega
    have ih := grS_at L (n / 2) i h'
    have e : n / 2 / 2 ^ i = n / 2 ^ (i + 1) := by rw [Nat.div_div_eq_div_mul, Nat.pow_succ, Nat.mul_comm 2]
    unfold bitB at ih ⊢
    rw [e] at ih
    rw [← ih]
    simp [grS]
theorem shr_nat (n i : Nat) (h : i ≤ 60) : shr .i64 (n : Int) (i : Int) = ((n / 2 ^ i : Nat) : Int) := by
  have hm : min ((i : Int).toNat) IntKind.i64.bits = i := by
    rw [Int.toNat_natCast]; exact Nat.min_eq_left (Nat.le_trans h (by decide))
  have hs : shr .i64 (n : Int) (i : Int) = (n : Int) / 2 ^ min ((i : Int).toNat) IntKind.i64.bits := rfl
  rw [hs, hm, Int.natCast_ediv, Int.natCast_pow]; rfl
theorem and_one (n : Nat) (h : n < 4611686018427387904) : Go.bits .and .i64 (n : Int) 1 = ((n % 2 : Nat) : Int) := by
  have ha' : n % 2 ^ IntKind.i64.bits = n := Nat.mod_eq_of_lt (Nat.lt_of_lt_of_le h (by decide))
  have e1 : (1 : Int) = ((1 : Nat) : Int) := rfl
  rw [e1]
  simp only [Go.bits, BitVec.ofInt_natCast, BitVec.toNat_and, BitVec.toNat_ofNat, ha']
  have e2 : n &&& (1 % 2 ^ IntKind.i64.bits) = n % 2 := by
    rw [show 1 % 2 ^ IntKind.i64.bits = 1 by decide, Nat.and_one_is_mod]
  rw [e2, i64_w, w64 (by omega) (by omega)]
theorem gray_bit (n i : Nat) : (n ^^^ n / 2) / 2 ^ i % 2 = (n / 2 ^ i + n / 2 ^ i / 2) % 2 := by
  have e : n / 2 / 2 ^ i = n / 2 ^ i / 2 := by rw [Nat.div_div_eq_div_mul, Nat.div_div_eq_div_mul, Nat.mul_comm]
  rw [Nat.xor_div_two_pow, e]
  generalize n / 2 ^ i = y
  have q := @Nat.xor_mod_two_eq_one y (y / 2)
  generalize (y ^^^ y / 2) = x at q ⊢
  by_cases c1 : y % 2 = 1
  · by_cases c2 : y / 2 % 2 = 1
    · have : ¬ x % 2 = 1 := fun h => q.1 h ⟨fun _ => c2, fun _ => c1⟩
      omega
    · have : x % 2 = 1 := q.2 (fun h => c2 (h.1 c1))
      omega
  · by_cases c2 : y / 2 % 2 = 1
    · have : x % 2 = 1 := q.2 (fun h => c1 (h.2 c2))
      omega
    · have : ¬ x % 2 = 1 := fun h => q.1 h ⟨fun h => absurd h c1, fun h => absurd h c2⟩
      omega
theorem state_l0 (L n : Nat) (hL : L ≤ 20) (hn : n < 1048576) : ∀ (d i : Nat) (x : List Int), i + d = L → x.length = L → (∀ j : Nat, j < i → rd x (j : Int) = ((bitB n j).toNat : Int)) →
    Ev (fun k => impl_state.l0 k ((n ^^^ n / 2 : Nat) : Int) x (L : Int) (i : Int)) (stB L n) := by
  have hx : n ^^^ n / 2 < 2 ^ 20 := Nat.xor_lt_two_pow (by simpa using hn) (by have : (2 : Nat) ^ 20 = 1048576 := by decide
                                                                               omega)
  have e20 : (2 : Nat) ^ 20 = 1048576 := by decide
  intro d
  induction d with
  | zero =>
    intro i x hi hxl h
    obtain rfl : i = L := by omega
    have : strOfNums x = stB i n := by
      apply ByteArray.ext
      apply Array.toList_inj.1
      show (x.map fun n => UInt8.ofNat n.toNat) = grS i n
      apply List.ext_getElem (by rw [List.length_map, hxl, grS_length])
      intro j h1 h2
      have hj : j < x.length := by simpa using h1
      have e : x[j] = rd x (j : Int) := by simp [rd, hj]
      rw [List.getElem_map, grS_at i n j h2, e, h j (by omega), Int.toNat_natCast]
      simp
    exact Ev.last fun k => by rw [impl_state.l0, if_neg (by omega), this]
  | succ d ih =>
    intro i x hi hxl h
    have hdl := Nat.div_le_self (n ^^^ n / 2) (2 ^ i)
    refine Ev.next ⟨0, fun k _ => ?_⟩ (ih (i + 1) (x.set i ((bitB n i).toNat : Int)) (by omega) (by rw [List.length_set]; exact hxl) (fun j hj => by
      rw [srd _ _ _ _ (by omega)]
      by_cases c : j = i
      · subst c; rw [if_pos rfl]
      · rw [if_neg c]; exact h j (by omega)))
    have hb : (48 + (((((n ^^^ n / 2) / 2 ^ i % 2 : Nat)) : Int) % 256)) % 256 = ((bitB n i).toNat : Int) := by
      rw [gray_bit]
      unfold bitB
      by_cases c : (n / 2 ^ i + n / 2 ^ i / 2) % 2 = 1
      · rw [if_pos c, c]; rfl
      · rw [if_neg c, show (n / 2 ^ i + n / 2 ^ i / 2) % 2 = 0 by omega]; rfl
    rw [impl_state.l0, if_pos (by omega), if_pos (by omega), if_pos (by omega), shr_nat _ _ (by omega), and_one _ (by omega), hb, Int.toNat_natCast, w64 (by omega) (by omega)]
    rfl
theorem state_ev (L n : Nat) (hL : L ≤ 20) (hn : n < 2 ^ L) : Ev (fun k => impl_state.f k (L : Int) (n : Int)) (stB L n) := by
  have hp := pow20 hL
  obtain ⟨K, hK⟩ := state_l0 L n hL (by omega) L 0 (List.replicate L 0) (by omega) (by simp) (fun j hj => by omega)
  refine ⟨K, fun k hk => ?_⟩
  have hK := hK k hk
  have et : Int.tdiv (n : Int) 2 = ((n / 2 : Nat) : Int) := rfl
  unfold impl_state.f
  dsimp only
  rw [if_pos (by omega), if_pos (by omega), Option.bind_some, et, w64 (a := ((n / 2 : Nat) : Int)) (by omega) (by omega), xor_i64 n (n / 2) (by omega) (by omega), List.length_replicate, Int.toNat_natCast]
  exact hK

/-! ### after spec_riState -/
theorem riState_l0 (L n : Nat) (hL : L ≤ 20) (hn : n < 1048576) : ∀ (d i : Nat), i + d = L →
    Ev (fun k => spec_riState.l0 k (L : Int) (n : Int) ⟨((grS L n).take i).toArray⟩ (i : Int)) (stB L n) := by
  intro d
  induction d with
  | zero =>
    intro i hi
    obtain rfl : i = L := by omega
    rw [List.take_of_length_le (by rw [grS_length]; omega)]
    exact Ev.last fun k => by rw [spec_riState.l0, if_neg (by omega)]; rfl
  | succ d ih =>
    intro i hi
    have hlt : i < (grS L n).length := by rw [grS_length]; omega
    have hd1 := Nat.div_le_self n (2 ^ i)
    have hd2 := Nat.div_le_self n (2 ^ (i + 1))
    have ew : wrap64 ((i : Int) + 1) = ((i + 1 : Nat) : Int) := by rw [w64 (by omega) (by omega)]; omega
    have ez : (⟨((grS L n).take i).toArray⟩ : ByteArray).size = i := by
      rw [Lib.size_eq]; show ((grS L n).take i).length = i; rw [List.length_take]; omega
    have e2 : n / 2 ^ (i + 1) = n / 2 ^ i / 2 := by rw [Nat.div_div_eq_div_mul, Nat.pow_succ]
    have htk : (grS L n).take (i + 1) = (grS L n).take i ++ [bitB n i] := by rw [List.take_succ_eq_append_getElem hlt, grS_at L n i hlt]
    refine Ev.next ⟨0, fun k _ => ?_⟩ (ih (i + 1) (by omega))
    rw [spec_riState.l0, ew, if_pos (by omega), if_pos (by omega), if_pos (by omega), shr_nat _ _ (by omega), shr_nat _ _ (by omega), and_one _ (by omega), and_one _ (by omega), ez, htk]
    unfold bitB
    rw [e2]
    by_cases c : (n / 2 ^ i + n / 2 ^ i / 2) % 2 = 1
    · rw [if_neg (by omega), if_pos (by omega), if_pos c, ← str_snoc]
    · rw [if_pos (by omega), if_pos (by omega), if_neg c, ← str_snoc]
theorem riState_ev (L n : Nat) (hL : L ≤ 20) (hn : n < 2 ^ L) : Ev (fun k => spec_riState.f k (L : Int) (n : Int)) (stB L n) := by
  have hp := pow20 hL
  exact riState_l0 L n hL (by omega) L 0 (by omega)

/-! ### after impl_isWalk -/
theorem isWalk_eq (a : ByteArray) (h : a.size ≤ 1048576) : impl_isWalk.f a = some (stateB a && decide ((a.size : Int) ≤ 12)) := by
  unfold impl_isWalk.f
  rw [isState_eq a (by omega), Option.bind_some]
  cases stateB a <;> simp

/-! ### after laws_yTexts -/
theorem yTexts_ev (l : List ByteArray) (hl : l.length ≤ 9223372036854775806) : Ev (fun k => laws_yTexts.f k l l) true := by
  have key : ∀ (d i : Nat), i + d = l.length → Ev (fun k => laws_yTexts.l0 k l l (l.length : Int) (i : Int)) true := by
    intro d
    induction d with
    | zero => intro i hi; exact Ev.last fun k => by rw [laws_yTexts.l0, if_neg (by omega)]
    | succ d ih =>
      intro i hi
      refine Ev.next ⟨0, fun k _ => ?_⟩ (ih (i + 1) (by omega))
      rw [laws_yTexts.l0, if_pos (by omega), if_pos (by omega), if_pos (by omega), if_pos (by omega), if_pos rfl, w64 (by omega) (by omega)]
      rfl
  obtain ⟨K, hK⟩ := key l.length 0 (by omega)
  exact ⟨K, fun k hk => by simp only [laws_yTexts.f, if_true]; exact hK k hk⟩

/-! ### after impl_withOn -/
theorem with_ev (T : Int → Option Bool) (p : Nat → Bool) (r N : Nat) (hN : N ≤ 1048576) (hr : r ≤ 20) (hN2 : N = 2 ^ r) (hT : ∀ i : Nat, i < N → T (i : Int) = some (p i)) : ∀ (d i : Nat), i + d = N →
    Ev (fun k => impl_withNumbers.l0 T k (r : Int) (((List.range i).filter p).map (stB r)) (N : Int) (i : Int)) (((List.range N).filter p).map (stB r)) := by
  intro d
  induction d with
  | zero =>
    intro i hi
    obtain rfl : i = N := by omega
    exact Ev.last fun k => by rw [impl_withNumbers.l0, if_neg (by omega)]
  | succ d ih =>
    intro i hi
    have hlen : (((List.range i).filter p).map (stB r)).length ≤ i := by
      rw [List.length_map]; exact Nat.le_trans (List.length_filter_le _ _) (by simp)
    obtain ⟨K, hK⟩ := state_ev r i hr (by omega)
    refine Ev.next ⟨K, fun k hk => ?_⟩ (ih (i + 1) (by omega))
    have hK := hK k hk
    simp only at hK
    rw [impl_withNumbers.l0, if_pos (by omega), hT i (by omega), Option.bind_some, List.range_succ, List.filter_append, List.map_append, w64 (by omega) (by omega)]
    cases hc : p i
    · rw [if_neg (by simp)]; simp [hc]
    · rw [if_pos rfl, hK, Option.bind_some, if_pos (by omega)]; simp [hc]

/-! ### after impl_lowest -/
/-- A fraction in lowest terms. -/
theorem low_facts (p q : Nat) (hq : 0 < q) : ∃ g a b : Nat, 0 < g ∧ p = g * a ∧ q = g * b ∧ 0 < b ∧ lowR p q = ((a : Int), (b : Int)) := by
  have hg : 0 < Nat.gcd p q := Nat.gcd_pos_of_pos_right p hq
  have h1 := Nat.mul_div_cancel' (Nat.gcd_dvd_left p q)
  have h2 := Nat.mul_div_cancel' (Nat.gcd_dvd_right p q)
  refine ⟨Nat.gcd p q, p / Nat.gcd p q, q / Nat.gcd p q, hg, h1.symm, h2.symm, ?_, rfl⟩
  exact Nat.div_pos (Nat.le_of_dvd hq (Nat.gcd_dvd_right p q)) hg

/-! ### after impl_state -/
/-- How many rings are on at a number. -/
def pcN (L n : Nat) : Nat := (grS L n).count 49
theorem onN_stB (L n : Nat) : onN (stB L n) = pcN L n := rfl
theorem pcN_le (L n : Nat) : pcN L n ≤ L := by
  unfold pcN
  have := List.count_le_length (a := (49 : UInt8)) (l := grS L n)
  rw [grS_length] at this
  exact this
theorem pcN_succ (L n : Nat) : pcN (L + 1) n = pcN L (n / 2) + (n + n / 2) % 2 := by
  unfold pcN
  rw [grS]
  by_cases c : (n + n / 2) % 2 = 1
  · rw [if_pos c, List.count_cons_self, c]
  · rw [if_neg c, List.count_cons_of_ne (by decide)]; omega
/-- How many choices there are. -/
def pasc : Nat → Nat → Nat
  | _, 0 => 1
  | 0, _ + 1 => 0
  | n + 1, k + 1 => pasc n k + pasc n (k + 1)
theorem filter_one (p : Nat → Bool) (n : Nat) : ([n].filter p).length = if p n = true then 1 else 0 := by
  cases h : p n <;> simp [h]
theorem count_two (L m : Nat) : ∀ M : Nat, ((List.range (2 * M)).filter (fun n => pcN (L + 1) n == m + 1)).length = ((List.range M).filter (fun n => pcN L n == m)).length + ((List.range M).filter (fun n => pcN L n == m + 1)).length := by
  intro M
  induction M with
  | zero => rfl
  | succ M ih =>
    rw [show 2 * (M + 1) = 2 * M + 1 + 1 by omega, List.range_succ, List.range_succ, List.range_succ, List.filter_append, List.filter_append, List.filter_append, List.filter_append, List.length_append, List.length_append, List.length_append, List.length_append, ih, filter_one, filter_one, filter_one, filter_one, pcN_succ, pcN_succ, show 2 * M / 2 = M by omega, show (2 * M + 1) / 2 = M by omega]
    simp only [beq_iff_eq]
    (repeat' split) <;> omega
theorem count_none (L : Nat) : ∀ M : Nat, ((List.range (2 * M)).filter (fun n => pcN (L + 1) n == 0)).length = ((List.range M).filter (fun n => pcN L n == 0)).length := by
  intro M
  induction M with
  | zero => rfl
  | succ M ih =>
    rw [show 2 * (M + 1) = 2 * M + 1 + 1 by omega, List.range_succ, List.range_succ, List.range_succ, List.filter_append, List.filter_append, List.filter_append, List.length_append, List.length_append, List.length_append, ih, filter_one, filter_one, filter_one, pcN_succ, pcN_succ, show 2 * M / 2 = M by omega, show (2 * M + 1) / 2 = M by omega]
    simp only [beq_iff_eq]
    (repeat' split) <;> omega
/-- The numbers with so many rings on. -/
def onL (r m : Nat) : List Nat := (List.range (2 ^ r)).filter fun n => pcN r n == m
theorem onL_len : ∀ r m : Nat, (onL r m).length = pasc r m
  | 0, 0 => rfl
  | 0, m + 1 => by
    unfold onL
    rw [show 2 ^ 0 = 1 from rfl, show List.range 1 = [0] from rfl, filter_one, if_neg (by simp [pcN, grS])]; rfl
  | r + 1, 0 => by
    unfold onL
    rw [Nat.pow_succ, Nat.mul_comm, count_none]
    have := onL_len r 0
    unfold onL at this
    rw [this]
    cases r <;> rfl
  | r + 1, m + 1 => by
    unfold onL
    rw [Nat.pow_succ, Nat.mul_comm, count_two]
    have h1 := onL_len r m
    have h2 := onL_len r (m + 1)
    unfold onL at h1 h2
    rw [h1, h2]
    rfl
theorem onL_mem {r m n : Nat} (h : n ∈ onL r m) : n < 2 ^ r ∧ pcN r n = m := by
  obtain ⟨h1, h2⟩ := List.mem_filter.1 h
  exact ⟨List.mem_range.1 h1, by simpa using h2⟩
theorem onL_up (r m : Nat) : (onL r m).Pairwise (· < ·) := List.Pairwise.filter _ List.pairwise_lt_range
theorem pasc_facts : ∀ a, a < 13 → ∀ j, j < 13 → a + j ≤ 12 → 1 ≤ pasc (a + j) j ∧ pasc (a + j) j ≤ 924 ∧ pasc (a + j) j * (a + (j + 1)) / (j + 1) = pasc (a + (j + 1)) (j + 1) := by decide +kernel
theorem pasc_sum : ∀ r, r < 13 → ((List.range (r + 1)).map (pasc r)).sum = 2 ^ r := by decide +kernel
theorem pasc_le {r m : Nat} (hr : r ≤ 12) (hm : m ≤ r) : 1 ≤ pasc r m ∧ pasc r m ≤ 924 := by
  have := pasc_facts (r - m) (by omega) m (by omega) (by omega)
  rw [show r - m + m = r by omega] at this
  exact ⟨this.1, this.2.1⟩
theorem state_fuel : ∀ (d e : Nat) (x5 : Int) (x6 : List Int) (x15 x16 : Int), x15 ≤ x16 + d → 0 ≤ x16 → x15 ≤ 1048576 → impl_state.l0 (d + 1 + e) x5 x6 x15 x16 = impl_state.l0 (d + 1) x5 x6 x15 x16
  | 0, e, x5, x6, x15, x16, h, h0, h1 => by
    rw [show 0 + 1 + e = e + 1 by omega, impl_state.l0, impl_state.l0, if_neg (by omega), if_neg (by omega)]
  | d + 1, e, x5, x6, x15, x16, h, h0, h1 => by
    rw [show d + 1 + 1 + e = (d + 1 + e) + 1 by omega, impl_state.l0]
    conv => rhs; rw [impl_state.l0]
    by_cases c : x16 < x15
    · rw [if_pos c, if_pos c, w64 (by omega) (by omega), state_fuel d e _ _ _ _ (by omega) (by omega) h1]
    · rw [if_neg c, if_neg c]
theorem state_64 (L n : Nat) (hL : L ≤ 20) (hn : n < 2 ^ L) : impl_state.f 64 (L : Int) (n : Int) = some (stB L n) := by
  obtain ⟨K, hK⟩ := state_ev L n hL hn
  have := hK (63 + 1 + K) (by omega)
  simp only at this
  rw [← this]
  unfold impl_state.f
  by_cases c1 : (0 : Int) ≤ (L : Int)
  · rw [if_pos c1, if_pos c1]
    by_cases c2 : ((L : Nat) : Int).toNat ≤ 281474976710656
    · rw [if_pos c2, if_pos c2, Option.bind_some, Option.bind_some, state_fuel 63 K _ _ _ _ (by rw [List.length_replicate, Int.toNat_natCast]; omega) (by omega) (by rw [List.length_replicate, Int.toNat_natCast]; omega)]
    · exact absurd c2 (by rw [Int.toNat_natCast]; omega)
  · omega
theorem countOn_st (L n : Nat) (h1 : 1 ≤ L) (h : L ≤ 20) : impl_CountOn.f (stB L n) = some ((pcN L n : Int), true) := by
  rw [countOn_eq _ (by rw [stB_size]; omega) (stB_state L n h1 h), onN_stB]
theorem number_st (L n : Nat) (h1 : 1 ≤ L) (h : L ≤ 20) (hn : n < 2 ^ L) : Ev (fun k => impl_number.f k (stB L n)) (n : Int) := by
  have := number_ev (stB_state L n h1 h)
  have e : grN (stB L n).data.toList = n := stB_num L n hn
  rw [e] at this
  exact this
theorem rd_st (r : Nat) (l : List Nat) (i : Nat) (h : i < l.length) : rdOf ByteArray.empty (l.map (stB r)) (i : Int) = stB r l[i] := by simp [rdOf, h]
theorem sum_take (l : List Nat) (i : Nat) (h : i < l.length) : (l.take (i + 1)).sum = (l.take i).sum + l[i] := by
  rw [List.take_succ_eq_append_getElem h, List.sum_append]; simp
theorem sum_le (B : Nat) : ∀ l : List Nat, (∀ n ∈ l, n ≤ B) → l.sum ≤ B * l.length
  | [], _ => by simp
  | a :: l, h => by
    have h1 := sum_le B l (fun n hn => h n (List.mem_cons_of_mem _ hn))
    have h2 := h a List.mem_cons_self
    rw [List.sum_cons, List.length_cons, Nat.mul_succ]
    omega

/-! ### after impl_chosen -/
theorem tdiv_nat (a b : Nat) : Int.tdiv (a : Int) (b : Int) = ((a / b : Nat) : Int) := rfl
theorem chosen_step (A c j : Nat) (hA : A ≤ 924) (hc : c ≤ 13) : wrap64 (Int.tdiv (wrap64 ((A : Int) * (c : Int))) ((j + 1 : Nat) : Int)) = ((A * c / (j + 1) : Nat) : Int) := by
  have hm : A * c ≤ 924 * 13 := Nat.mul_le_mul hA hc
  have hd := Nat.le_trans (Nat.div_le_self (A * c) (j + 1)) hm
  rw [← Int.natCast_mul]
  generalize A * c = z at hm hd ⊢
  rw [w64 (a := (z : Int)) (by omega) (by omega), tdiv_nat]
  generalize z / (j + 1) = y at hd ⊢
  rw [w64 (by omega) (by omega)]
theorem chosen_ev (r m : Nat) (hr : r ≤ 12) (hm : m ≤ r) : Ev (fun k => impl_chosen.f k (r : Int) (m : Int)) (pasc r m : Int) := by
  have key : ∀ (d j : Nat), j + d = m → Ev (fun k => impl_chosen.l0 k (r : Int) (m : Int) (pasc (r - m + j) j : Int) ((j + 1 : Nat) : Int)) (pasc r m : Int) := by
    intro d
    induction d with
    | zero =>
      intro j hj
      obtain rfl : j = m := by omega
      refine Ev.last fun k => ?_
      rw [impl_chosen.l0, if_neg (by omega), show r - j + j = r by omega]
    | succ d ih =>
      intro j hj
      obtain ⟨_, h2, h3⟩ := pasc_facts (r - m) (by omega) j (by omega) (by omega)
      have e1 : wrap64 (wrap64 ((r : Int) - (m : Int)) + ((j + 1 : Nat) : Int)) = ((r - m + (j + 1) : Nat) : Int) := by
        rw [w64 (a := (r : Int) - (m : Int)) (by omega) (by omega), w64 (by omega) (by omega)]; omega
      have e3 := chosen_step (pasc (r - m + j) j) (r - m + (j + 1)) j h2 (by omega)
      rw [h3] at e3
      clear h2 h3
      have e4 : wrap64 (((j + 1 : Nat) : Int) + 1) = ((j + 1 + 1 : Nat) : Int) := by rw [w64 (by omega) (by omega)]; omega
      refine Ev.next ⟨0, fun k _ => ?_⟩ (ih (j + 1) (by omega))
      have f1 : ((j + 1 : Nat) : Int) ≤ (m : Int) := by omega
      have f2 : ¬ ((j + 1 : Nat) : Int) = 0 := by omega
      rw [impl_chosen.l0, if_pos f1, if_neg f2, e1, e3, e4]
  obtain ⟨K, hK⟩ := key m 0 (by omega)
  refine ⟨K, fun k hk => ?_⟩
  have hK := hK k hk
  simp only at hK
  have hi : inB (m : Int) 0 (r : Int) = true := inB_of (by omega) (by omega)
  have e0 : pasc (r - m + 0) 0 = 1 := by cases r - m <;> rfl
  rw [e0] at hK
  dsimp only
  unfold impl_chosen.f impl_in.f
  rw [inB_ite, hi, Option.bind_some, if_pos rfl]
  exact hK

/-! ### after impl_withOn -/
theorem withOn_ev (r m : Nat) (h0 : 1 ≤ r) (hr : r ≤ 12) : Ev (fun k => impl_withOn.f k (r : Int) (m : Int)) ((onL r m).map (stB r)) := by
  have hN : 2 ^ r ≤ 4096 := Nat.pow_le_pow_right (n := 2) (by omega) (show r ≤ 12 by omega)
  obtain ⟨K, hK⟩ := with_ev (onAt (r : Int) (m : Int)) (fun n => pcN r n == m) r (2 ^ r) (by omega) (by omega) rfl (fun i hi => by
    unfold onAt
    rw [state_64 r i (by omega) hi, Option.bind_some, countOn_st r i h0 (by omega), Option.bind_some]
    exact congrArg some (by rw [Bool.eq_iff_iff, beq_iff_eq, beq_iff_eq]; simp only; omega)) (2 ^ r) 0 (by omega)
  refine ⟨K, fun k hk => ?_⟩
  have hK := hK k hk
  simp only at hK
  dsimp only
  unfold impl_withOn.f impl_withNumbers.f
  rw [if_pos (by omega), shl_pow2 (by omega)]
  exact hK

/-! ### after spec_waWith -/
theorem waWith_ev (r m : Nat) (h0 : 1 ≤ r) (hr : r ≤ 12) : Ev (fun k => spec_waWith.f k (r : Int) (m : Int)) ((onL r m).map fun n : Nat => (n : Int)) := by
  have hN : 2 ^ r ≤ 4096 := Nat.pow_le_pow_right (n := 2) (by omega) (show r ≤ 12 by omega)
  have key : ∀ (d i : Nat), i + d = 2 ^ r → Ev (fun k => spec_waWith.l0 k (r : Int) (m : Int) (((List.range i).filter fun n => pcN r n == m).map fun n : Nat => (n : Int)) (i : Int)) ((onL r m).map fun n : Nat => (n : Int)) := by
    intro d
    induction d with
    | zero =>
      intro i hi
      obtain rfl : i = 2 ^ r := by omega
      refine Ev.last fun k => ?_
      rw [spec_waWith.l0, if_pos (by omega), shl_pow2 (by omega), if_neg (by omega)]
      rfl
    | succ d ih =>
      intro i hi
      have hlen : (((List.range i).filter fun n => pcN r n == m).map fun n : Nat => (n : Int)).length ≤ i := by
        rw [List.length_map]; exact Nat.le_trans (List.length_filter_le _ _) (by simp)
      obtain ⟨K1, h1⟩ := riState_ev r i (by omega) (by omega)
      obtain ⟨K2, h2⟩ := riOn_ev (stB r i) (by rw [stB_size]; omega)
      rw [onN_stB] at h2
      refine Ev.next ⟨K1 + K2, fun k hk => ?_⟩ (ih (i + 1) (by omega))
      have h1 := h1 k (by omega)
      have h2 := h2 k (by omega)
      simp only at h1 h2
      rw [spec_waWith.l0, if_pos (by omega), shl_pow2 (by omega), if_pos (by omega), h1, Option.bind_some, h2, Option.bind_some, List.range_succ, List.filter_append, List.map_append, w64 (by omega) (by omega)]
      by_cases c : pcN r i = m
      · rw [if_pos (by omega), if_pos (by omega)]
        simp [c]
      · rw [if_neg (by omega)]
        simp [c]
  exact key (2 ^ r) 0 (by omega)

/-! ### after impl_isOn -/
def onB (r m : Int) : Bool := inB r 1 12 && inB m 0 r
theorem isOn_eq (r m : Int) : impl_isOn.f r m = some (onB r m) := by
  unfold impl_isOn.f impl_areWalks.f impl_in.f onB
  rw [inB_ite, Option.bind_some, Option.bind_some]
  cases inB r 1 12
  · simp
  · rw [if_pos rfl, inB_ite, Option.bind_some, Bool.true_and]
theorem onB_facts {r m : Int} (h : onB r m = true) : ∃ R M : Nat, r = R ∧ m = M ∧ 1 ≤ R ∧ R ≤ 12 ∧ M ≤ R := by
  unfold onB at h
  rw [Bool.and_eq_true] at h
  have h1 := inB_lo h.1
  have h2 := inB_hi h.1
  have h3 := inB_lo h.2
  have h4 := inB_hi h.2
  exact ⟨r.toNat, m.toNat, by omega, by omega, by omega, by omega, by omega⟩
def countR (r m : Int) : Int × Bool := if onB r m = true then ((pasc r.toNat m.toNat : Int), true) else (0, false)
def statesR (r m : Int) : List ByteArray × Bool := if onB r m = true ∧ pasc r.toNat m.toNat ≤ 100 then ((onL r.toNat m.toNat).map (stB r.toNat), true) else ([], false)
def leastR (r m : Int) : ByteArray × Bool := if onB r m = true then (stB r.toNat ((onL r.toNat m.toNat).getD 0 0), true) else (⟨#[]⟩, false)
def greatR (r m : Int) : ByteArray × Bool := if onB r m = true then (stB r.toNat ((onL r.toNat m.toNat).getD (pasc r.toNat m.toNat - 1) 0), true) else (⟨#[]⟩, false)
def sumR (r m : Int) : Int × Bool := if onB r m = true then (((onL r.toNat m.toNat).sum : Int), true) else (0, false)
theorem onL_at {r m : Nat} (i : Nat) (h : i < pasc r m) : (onL r m).getD i 0 < 2 ^ r ∧ pcN r ((onL r m).getD i 0) = m := by
  have hl : i < (onL r m).length := by rw [onL_len]; exact h
  rw [List.getD_eq_getElem?_getD, List.getElem?_eq_getElem hl]
  exact onL_mem (List.getElem_mem hl)
theorem onL_rd {r m : Nat} (i : Nat) (h : i < pasc r m) : rdOf ByteArray.empty ((onL r m).map (stB r)) (i : Int) = stB r ((onL r m).getD i 0) := by
  have hl : i < (onL r m).length := by rw [onL_len]; exact h
  rw [rd_st _ _ _ hl, List.getD_eq_getElem?_getD, List.getElem?_eq_getElem hl]
  rfl
theorem onL_rdI {r m : Nat} (i : Nat) (h : i < pasc r m) : rd ((onL r m).map fun n : Nat => (n : Int)) (i : Int) = (((onL r m).getD i 0 : Nat) : Int) := by
  have hl : i < (onL r m).length := by rw [onL_len]; exact h
  simp [rd, hl]
theorem onL_lt {r m : Nat} (i j : Nat) (hij : i < j) (h : j < pasc r m) : (onL r m).getD i 0 < (onL r m).getD j 0 := by
  have hj : j < (onL r m).length := by rw [onL_len]; exact h
  have hi : i < (onL r m).length := by omega
  rw [List.getD_eq_getElem?_getD, List.getD_eq_getElem?_getD, List.getElem?_eq_getElem hi, List.getElem?_eq_getElem hj]
  exact List.pairwise_iff_getElem.1 (onL_up r m) i j hi hj hij
theorem onL_sum {r m : Nat} (hr : r ≤ 12) (i : Nat) (h : i < pasc r m) : ((onL r m).take (i + 1)).sum = ((onL r m).take i).sum + (onL r m).getD i 0 := by
  have hl : i < (onL r m).length := by rw [onL_len]; exact h
  rw [sum_take _ _ hl, List.getD_eq_getElem?_getD, List.getElem?_eq_getElem hl]
  rfl
theorem onL_sumle {r m : Nat} (hr : r ≤ 12) (hm : m ≤ r) (i : Nat) : ((onL r m).take i).sum ≤ 4096 * 924 := by
  have hN : 2 ^ r ≤ 4096 := Nat.pow_le_pow_right (n := 2) (by omega) (show r ≤ 12 by omega)
  have h1 := sum_le 4096 ((onL r m).take i) (fun n hn => by have := (onL_mem (List.mem_of_mem_take hn)).1; omega)
  have h2 := List.length_take_le i (onL r m)
  have h3 : ((onL r m).take i).length ≤ 924 := by
    have := (pasc_le hr hm).2
    rw [← onL_len] at this
    rw [List.length_take]; omega
  exact Nat.le_trans h1 (Nat.mul_le_mul_left _ h3)

/-! ### after spec_waOn -/
theorem waOn_eq (r m : Int) : spec_waOn.f r m = some (onB r m) := by
  unfold spec_waOn.f spec_waRings.f spec_l1In.f onB
  rw [inB_ite, Option.bind_some, Option.bind_some]
  cases inB r 1 12
  · simp
  · rw [if_pos rfl, inB_ite, Option.bind_some, Bool.true_and]

/-! ### after impl_CountWithOn -/
theorem implCount_ev (r m : Int) : Ev (fun k => impl_CountWithOn.f k r m) (countR r m) := by
  unfold countR
  cases c : onB r m with
  | false => exact ⟨0, fun k _ => by simp [impl_CountWithOn.f, isOn_eq, c]⟩
  | true =>
    obtain ⟨R, M, rfl, rfl, h1, h2, h3⟩ := onB_facts c
    obtain ⟨K, hK⟩ := chosen_ev R M h2 h3
    refine ⟨K, fun k hk => ?_⟩
    have hK := hK k hk
    simp only at hK
    dsimp only
    rw [impl_CountWithOn.f, isOn_eq, c, Option.bind_some, if_pos rfl, hK, Option.bind_some, if_pos rfl, Int.toNat_natCast, Int.toNat_natCast]

/-! ### after spec_CountWithOn -/
theorem specCount_ev (r m : Int) : Ev (fun k => spec_CountWithOn.f k r m) (countR r m) := by
  unfold countR
  cases c : onB r m with
  | false => exact ⟨0, fun k _ => by simp [spec_CountWithOn.f, waOn_eq, c]⟩
  | true =>
    obtain ⟨R, M, rfl, rfl, h1, h2, h3⟩ := onB_facts c
    obtain ⟨K, hK⟩ := waWith_ev R M h1 h2
    refine ⟨K, fun k hk => ?_⟩
    have hK := hK k hk
    simp only at hK
    dsimp only
    rw [spec_CountWithOn.f, waOn_eq, c, Option.bind_some, if_pos rfl, hK, Option.bind_some, if_pos rfl, Int.toNat_natCast, Int.toNat_natCast, List.length_map, onL_len]

/-! ### after impl_StatesWithOn -/
theorem implStates_ev (r m : Int) : Ev (fun k => impl_StatesWithOn.f k r m) (statesR r m) := by
  unfold statesR
  cases c : onB r m with
  | false => exact ⟨0, fun k _ => by simp [impl_StatesWithOn.f, isOn_eq, c]⟩
  | true =>
    obtain ⟨R, M, rfl, rfl, h1, h2, h3⟩ := onB_facts c
    obtain ⟨K, hK⟩ := chosen_ev R M h2 h3
    obtain ⟨K2, hK2⟩ := withOn_ev R M h1 h2
    refine ⟨K + K2, fun k hk => ?_⟩
    have hK := hK k (by omega)
    have hK2 := hK2 k (by omega)
    simp only at hK hK2
    dsimp only
    rw [impl_StatesWithOn.f, isOn_eq, c, Option.bind_some, if_pos rfl, hK, Option.bind_some, Int.toNat_natCast, Int.toNat_natCast]
    by_cases d : pasc R M ≤ 100
    · rw [if_neg (by omega), hK2, Option.bind_some, if_pos ⟨rfl, d⟩]
    · rw [if_pos (by omega), if_neg (fun h => d h.2)]
theorem statesR_len (r m : Int) : (statesR r m).1.length ≤ 100 := by
  unfold statesR
  by_cases c : onB r m = true ∧ pasc r.toNat m.toNat ≤ 100
  · rw [if_pos c, List.length_map, onL_len]; exact c.2
  · rw [if_neg c]; simp

/-! ### after spec_StatesWithOn -/
theorem specStates_ev (r m : Int) : Ev (fun k => spec_StatesWithOn.f k r m) (statesR r m) := by
  unfold statesR
  cases c : onB r m with
  | false => exact ⟨0, fun k _ => by simp [spec_StatesWithOn.f, waOn_eq, c]⟩
  | true =>
    obtain ⟨R, M, rfl, rfl, h1, h2, h3⟩ := onB_facts c
    obtain ⟨K, hK⟩ := waWith_ev R M h1 h2
    have hlen : ((onL R M).map fun n : Nat => (n : Int)).length = pasc R M := by rw [List.length_map, onL_len]
    have key : pasc R M ≤ 100 → ∀ (d i : Nat), i + d = pasc R M → Ev (fun k => spec_StatesWithOn.l0 k (R : Int) (((onL R M).take i).map (stB R)) ((onL R M).map fun n : Nat => (n : Int)) (pasc R M : Int) (i : Int)) ((onL R M).map (stB R), true) := by
      intro hp d
      induction d with
      | zero =>
        intro i hi
        obtain rfl : i = pasc R M := by omega
        refine Ev.last fun k => ?_
        rw [spec_StatesWithOn.l0, if_neg (by omega), List.take_of_length_le (by rw [onL_len]; exact Nat.le_refl _)]
      | succ d ih =>
        intro i hi
        have hl : i < (onL R M).length := by rw [onL_len]; omega
        have hat := onL_at (r := R) (m := M) i (by omega)
        obtain ⟨K1, e1⟩ := riState_ev R ((onL R M).getD i 0) (by omega) hat.1
        have hlt : (((onL R M).take i).map (stB R)).length ≤ 100 := by rw [List.length_map, List.length_take]; omega
        refine Ev.next ⟨K1, fun k hk => ?_⟩ (ih (i + 1) (by omega))
        have e1 := e1 k hk
        simp only at e1
        rw [spec_StatesWithOn.l0, hlen, if_pos (by omega), if_pos (by omega), if_pos (by omega), onL_rdI i (by omega), e1, Option.bind_some, if_pos (by omega), w64 (by omega) (by omega), List.take_succ_eq_append_getElem hl, List.map_append, List.getD_eq_getElem?_getD, List.getElem?_eq_getElem hl]
        rfl
    rw [Int.toNat_natCast, Int.toNat_natCast]
    by_cases d : pasc R M ≤ 100
    · obtain ⟨K2, hK2⟩ := key d (pasc R M) 0 (by omega)
      refine ⟨K + K2, fun k hk => ?_⟩
      have hK := hK k (by omega)
      have hK2 := hK2 k (by omega)
      simp only at hK hK2
      dsimp only
      rw [spec_StatesWithOn.f, waOn_eq, c, Option.bind_some, if_pos rfl, hK, Option.bind_some, hlen, if_neg (by omega), if_pos ⟨rfl, d⟩]
      exact hK2
    · refine ⟨K, fun k hk => ?_⟩
      have hK := hK k (by omega)
      simp only at hK
      dsimp only
      rw [spec_StatesWithOn.f, waOn_eq, c, Option.bind_some, if_pos rfl, hK, Option.bind_some, hlen, if_pos (by omega), if_neg (fun h => d h.2)]

/-! ### after impl_LeastWithOn -/
theorem implLeast_ev (r m : Int) : Ev (fun k => impl_LeastWithOn.f k r m) (leastR r m) := by
  unfold leastR
  cases c : onB r m with
  | false => exact ⟨0, fun k _ => by simp [impl_LeastWithOn.f, isOn_eq, c]⟩
  | true =>
    obtain ⟨R, M, rfl, rfl, h1, h2, h3⟩ := onB_facts c
    obtain ⟨K, hK⟩ := withOn_ev R M h1 h2
    have hp := pasc_le h2 h3
    refine ⟨K, fun k hk => ?_⟩
    have hK := hK k hk
    simp only at hK
    dsimp only
    rw [impl_LeastWithOn.f, isOn_eq, c, Option.bind_some, if_pos rfl, hK, Option.bind_some, List.length_map, onL_len, if_pos (by omega), if_pos rfl, Int.toNat_natCast, Int.toNat_natCast, show (0 : Int) = ((0 : Nat) : Int) from rfl, onL_rd 0 (by omega)]

/-! ### after spec_LeastWithOn -/
theorem specLeast_ev (r m : Int) : Ev (fun k => spec_LeastWithOn.f k r m) (leastR r m) := by
  unfold leastR
  cases c : onB r m with
  | false => exact ⟨0, fun k _ => by simp [spec_LeastWithOn.f, waOn_eq, c]⟩
  | true =>
    obtain ⟨R, M, rfl, rfl, h1, h2, h3⟩ := onB_facts c
    obtain ⟨K, hK⟩ := waWith_ev R M h1 h2
    have hp := pasc_le h2 h3
    obtain ⟨K2, hK2⟩ := riState_ev R ((onL R M).getD 0 0) (by omega) (onL_at 0 (by omega)).1
    refine ⟨K + K2, fun k hk => ?_⟩
    have hK := hK k (by omega)
    have hK2 := hK2 k (by omega)
    simp only at hK hK2
    dsimp only
    rw [spec_LeastWithOn.f, waOn_eq, c, Option.bind_some, if_pos rfl, hK, Option.bind_some, List.length_map, onL_len, if_pos (by omega), if_pos rfl, Int.toNat_natCast, Int.toNat_natCast, show (0 : Int) = ((0 : Nat) : Int) from rfl, onL_rdI 0 (by omega), hK2, Option.bind_some]

/-! ### after impl_GreatestWithOn -/
theorem implGreat_ev (r m : Int) : Ev (fun k => impl_GreatestWithOn.f k r m) (greatR r m) := by
  unfold greatR
  cases c : onB r m with
  | false => exact ⟨0, fun k _ => by simp [impl_GreatestWithOn.f, isOn_eq, c]⟩
  | true =>
    obtain ⟨R, M, rfl, rfl, h1, h2, h3⟩ := onB_facts c
    obtain ⟨K, hK⟩ := withOn_ev R M h1 h2
    have hp := pasc_le h2 h3
    have ew : wrap64 ((pasc R M : Int) - 1) = ((pasc R M - 1 : Nat) : Int) := by rw [w64 (by omega) (by omega)]; omega
    refine ⟨K, fun k hk => ?_⟩
    have hK := hK k hk
    simp only at hK
    dsimp only
    rw [impl_GreatestWithOn.f, isOn_eq, c, Option.bind_some, if_pos rfl, hK, Option.bind_some, List.length_map, onL_len, ew, if_pos (by omega), if_pos (by omega), if_pos rfl, Int.toNat_natCast, Int.toNat_natCast, onL_rd _ (by omega)]

/-! ### after spec_GreatestWithOn -/
theorem specGreat_ev (r m : Int) : Ev (fun k => spec_GreatestWithOn.f k r m) (greatR r m) := by
  unfold greatR
  cases c : onB r m with
  | false => exact ⟨0, fun k _ => by simp [spec_GreatestWithOn.f, waOn_eq, c]⟩
  | true =>
    obtain ⟨R, M, rfl, rfl, h1, h2, h3⟩ := onB_facts c
    obtain ⟨K, hK⟩ := waWith_ev R M h1 h2
    have hp := pasc_le h2 h3
    obtain ⟨K2, hK2⟩ := riState_ev R ((onL R M).getD (pasc R M - 1) 0) (by omega) (onL_at _ (by omega)).1
    have ew : wrap64 ((pasc R M : Int) - 1) = ((pasc R M - 1 : Nat) : Int) := by rw [w64 (by omega) (by omega)]; omega
    refine ⟨K + K2, fun k hk => ?_⟩
    have hK := hK k (by omega)
    have hK2 := hK2 k (by omega)
    simp only at hK hK2
    dsimp only
    rw [spec_GreatestWithOn.f, waOn_eq, c, Option.bind_some, if_pos rfl, hK, Option.bind_some, List.length_map, onL_len, ew, if_pos (by omega), if_pos (by omega), if_pos rfl, Int.toNat_natCast, Int.toNat_natCast, onL_rdI _ (by omega), hK2, Option.bind_some]

/-! ### after impl_SumWithOn -/
theorem implSum_ev (r m : Int) : Ev (fun k => impl_SumWithOn.f k r m) (sumR r m) := by
  unfold sumR
  cases c : onB r m with
  | false => exact ⟨0, fun k _ => by simp [impl_SumWithOn.f, isOn_eq, c]⟩
  | true =>
    obtain ⟨R, M, rfl, rfl, h1, h2, h3⟩ := onB_facts c
    obtain ⟨K, hK⟩ := withOn_ev R M h1 h2
    have hp := pasc_le h2 h3
    have hlen : ((onL R M).map (stB R)).length = pasc R M := by rw [List.length_map, onL_len]
    have key : ∀ (d i : Nat), i + d = pasc R M → Ev (fun k => impl_SumWithOn.l0 k (((onL R M).take i).sum : Int) ((onL R M).map (stB R)) (pasc R M : Int) (i : Int)) (((onL R M).sum : Int), true) := by
      intro d
      induction d with
      | zero =>
        intro i hi
        obtain rfl : i = pasc R M := by omega
        refine Ev.last fun k => ?_
        rw [impl_SumWithOn.l0, if_neg (by omega), List.take_of_length_le (by rw [onL_len]; exact Nat.le_refl _)]
      | succ d ih =>
        intro i hi
        obtain ⟨K1, e1⟩ := number_st R ((onL R M).getD i 0) h1 (by omega) (onL_at i (by omega)).1
        have hb := onL_sumle h2 h3 (i + 1)
        have hs := onL_sum (r := R) (m := M) h2 i (by omega)
        refine Ev.next ⟨K1, fun k hk => ?_⟩ (ih (i + 1) (by omega))
        have e1 := e1 k hk
        simp only at e1
        rw [impl_SumWithOn.l0, hlen, if_pos (by omega), if_pos (by omega), if_pos (by omega), onL_rd i (by omega), e1, Option.bind_some, w64 (by omega) (by omega), w64 (by omega) (by omega), hs]
        rfl
    obtain ⟨K2, hK2⟩ := key (pasc R M) 0 (by omega)
    refine ⟨K + K2, fun k hk => ?_⟩
    have hK := hK k (by omega)
    have hK2 := hK2 k (by omega)
    simp only at hK hK2
    dsimp only
    rw [impl_SumWithOn.f, isOn_eq, c, Option.bind_some, if_pos rfl, hK, Option.bind_some, hlen, if_pos rfl, Int.toNat_natCast, Int.toNat_natCast]
    exact hK2

/-! ### after spec_SumWithOn -/
theorem specSum_ev (r m : Int) : Ev (fun k => spec_SumWithOn.f k r m) (sumR r m) := by
  unfold sumR
  cases c : onB r m with
  | false => exact ⟨0, fun k _ => by simp [spec_SumWithOn.f, waOn_eq, c]⟩
  | true =>
    obtain ⟨R, M, rfl, rfl, h1, h2, h3⟩ := onB_facts c
    obtain ⟨K, hK⟩ := waWith_ev R M h1 h2
    have hp := pasc_le h2 h3
    have hlen : ((onL R M).map fun n : Nat => (n : Int)).length = pasc R M := by rw [List.length_map, onL_len]
    have key : ∀ (d i : Nat), i + d = pasc R M → Ev (fun k => spec_SumWithOn.l0 k (((onL R M).take i).sum : Int) ((onL R M).map fun n : Nat => (n : Int)) (pasc R M : Int) (i : Int)) (((onL R M).sum : Int), true) := by
      intro d
      induction d with
      | zero =>
        intro i hi
        obtain rfl : i = pasc R M := by omega
        refine Ev.last fun k => ?_
        rw [spec_SumWithOn.l0, if_neg (by omega), List.take_of_length_le (by rw [onL_len]; exact Nat.le_refl _)]
      | succ d ih =>
        intro i hi
        have hb := onL_sumle h2 h3 (i + 1)
        have hs := onL_sum (r := R) (m := M) h2 i (by omega)
        refine Ev.next ⟨0, fun k hk => ?_⟩ (ih (i + 1) (by omega))
        rw [spec_SumWithOn.l0, hlen, if_pos (by omega), if_pos (by omega), if_pos (by omega), onL_rdI i (by omega), w64 (by omega) (by omega), w64 (by omega) (by omega), hs]
        rfl
    obtain ⟨K2, hK2⟩ := key (pasc R M) 0 (by omega)
    refine ⟨K + K2, fun k hk => ?_⟩
    have hK := hK k (by omega)
    have hK2 := hK2 k (by omega)
    simp only at hK hK2
    dsimp only
    rw [spec_SumWithOn.f, waOn_eq, c, Option.bind_some, if_pos rfl, hK, Option.bind_some, hlen, if_pos rfl, Int.toNat_natCast, Int.toNat_natCast]
    exact hK2

/-! ### after impl_NumberOfState -/
theorem numberOf_st (L n : Nat) (h1 : 1 ≤ L) (h : L ≤ 20) (hn : n < 2 ^ L) : Ev (fun k => impl_NumberOfState.f k (stB L n)) ((n : Int), true) := by
  obtain ⟨K, hK⟩ := number_st L n h1 h hn
  refine ⟨K, fun k hk => ?_⟩
  have hK := hK k hk
  simp only at hK
  dsimp only
  rw [impl_NumberOfState.f, isState_eq _ (by rw [stB_size]; omega), stB_state L n h1 h, Option.bind_some, if_pos rfl, hK, Option.bind_some]

/-! ### after impl_MeanNumber -/
theorem low_odd : ∀ n, n < 13 → 1 ≤ n → lowR (2 ^ n - 1) 2 = (((2 ^ n - 1 : Nat) : Int), (2 : Int)) := by decide +kernel
def mnR (n : Int) : Int × Int × Bool := if inB n 1 12 = true then (((2 ^ n.toNat - 1 : Nat) : Int), 2, true) else (0, 0, false)
def mpR (n : Int) : Int × Int × Bool := if inB n 1 12 = true then ((lowR (2 ^ n.toNat * 2 ^ n.toNat - 1) (3 * 2 ^ n.toNat)).1, (lowR (2 ^ n.toNat * 2 ^ n.toNat - 1) (3 * 2 ^ n.toNat)).2, true) else (0, 0, false)
theorem areWalks_eq (n : Int) : impl_areWalks.f n = some (inB n 1 12) := by unfold impl_areWalks.f impl_in.f; rw [inB_ite, Option.bind_some]
theorem pow12 {n : Nat} (h : n ≤ 12) : 1 ≤ 2 ^ n ∧ 2 ^ n ≤ 4096 := ⟨Nat.pow_pos (by omega), Nat.pow_le_pow_right (n := 2) (by omega) h⟩
theorem implMeanN_ev (n : Int) : Ev (fun k => impl_MeanNumber.f k n) (mnR n) := by
  unfold mnR
  cases c : inB n 1 12 with
  | false => exact ⟨0, fun k _ => by simp [impl_MeanNumber.f, areWalks_eq, c]⟩
  | true =>
    have h1 := inB_lo c
    have h2 := inB_hi c
    obtain ⟨q, rfl⟩ : ∃ q : Nat, n = q := ⟨n.toNat, by omega⟩
    obtain ⟨p1, p2⟩ := pow12 (n := q) (by omega)
    obtain ⟨K, hK⟩ := low_ev (2 ^ q - 1) 2 (by omega) (by omega) (by omega)
    rw [low_odd q (by omega) (by omega)] at hK
    refine ⟨K, fun k hk => ?_⟩
    have hK := hK k hk
    simp only at hK
    have ew : wrap64 (((2 ^ q : Nat) : Int) - 1) = ((2 ^ q - 1 : Nat) : Int) := by rw [w64 (by omega) (by omega)]; omega
    have e2 : ((2 : Nat) : Int) = 2 := rfl
    rw [e2] at hK
    dsimp only
    rw [impl_MeanNumber.f, areWalks_eq, c, Option.bind_some, if_pos rfl, if_pos (by omega), shl_pow2 (by omega), ew, hK, Option.bind_some, if_pos rfl, Int.toNat_natCast]

/-! ### after spec_MeanNumber -/
theorem waRings_eq (n : Int) : spec_waRings.f n = some (inB n 1 12) := by unfold spec_waRings.f spec_l1In.f; rw [inB_ite, Option.bind_some]
theorem specMeanN_eq (n : Int) : spec_MeanNumber.f n = some (mnR n) := by
  unfold mnR
  cases c : inB n 1 12 with
  | false => simp [spec_MeanNumber.f, waRings_eq, c]
  | true =>
    have h1 := inB_lo c
    have h2 := inB_hi c
    obtain ⟨q, rfl⟩ : ∃ q : Nat, n = q := ⟨n.toNat, by omega⟩
    obtain ⟨p1, p2⟩ := pow12 (n := q) (by omega)
    have ew : wrap64 (((2 ^ q : Nat) : Int) - 1) = ((2 ^ q - 1 : Nat) : Int) := by rw [w64 (by omega) (by omega)]; omega
    rw [spec_MeanNumber.f, waRings_eq, c, Option.bind_some, if_pos rfl, if_pos (by omega), shl_pow2 (by omega), ew, if_pos rfl, Int.toNat_natCast]

/-! ### after impl_MeanOfPairs -/
theorem pair_words (q : Nat) (h : q ≤ 12) : wrap64 (wrap64 (((2 ^ q : Nat) : Int) * ((2 ^ q : Nat) : Int)) - 1) = ((2 ^ q * 2 ^ q - 1 : Nat) : Int) ∧ wrap64 (3 * ((2 ^ q : Nat) : Int)) = ((3 * 2 ^ q : Nat) : Int) := by
  obtain ⟨p1, p2⟩ := pow12 h
  have hm : 2 ^ q * 2 ^ q ≤ 4096 * 4096 := Nat.mul_le_mul p2 p2
  have hm1 : 1 * 1 ≤ 2 ^ q * 2 ^ q := Nat.mul_le_mul p1 p1
  have e : ((2 ^ q : Nat) : Int) * ((2 ^ q : Nat) : Int) = ((2 ^ q * 2 ^ q : Nat) : Int) := (Int.natCast_mul _ _).symm
  rw [e]
  generalize 2 ^ q * 2 ^ q = z at hm hm1 ⊢
  constructor
  · rw [w64 (a := (z : Int)) (by omega) (by omega), w64 (by omega) (by omega)]; omega
  · rw [w64 (by omega) (by omega)]; omega
theorem implPairs_ev (n : Int) : Ev (fun k => impl_MeanOfPairs.f k n) (mpR n) := by
  unfold mpR
  cases c : inB n 1 12 with
  | false => exact ⟨0, fun k _ => by simp [impl_MeanOfPairs.f, areWalks_eq, c]⟩
  | true =>
    have h1 := inB_lo c
    have h2 := inB_hi c
    obtain ⟨q, rfl⟩ : ∃ q : Nat, n = q := ⟨n.toNat, by omega⟩
    obtain ⟨p1, p2⟩ := pow12 (n := q) (by omega)
    have hm : 2 ^ q * 2 ^ q ≤ 4096 * 4096 := Nat.mul_le_mul p2 p2
    obtain ⟨K, hK⟩ := low_ev (2 ^ q * 2 ^ q - 1) (3 * 2 ^ q) (by omega) (by omega) (by omega)
    obtain ⟨e1, e2⟩ := pair_words q (by omega)
    refine ⟨K, fun k hk => ?_⟩
    have hK := hK k hk
    simp only at hK
    dsimp only
    rw [impl_MeanOfPairs.f, areWalks_eq, c, Option.bind_some, if_pos rfl, if_pos (by omega), shl_pow2 (by omega), e1, e2, hK, Option.bind_some, if_pos rfl, Int.toNat_natCast]

/-! ### after spec_MeanOfPairs -/
theorem specPairs_ev (n : Int) : Ev (fun k => spec_MeanOfPairs.f k n) (mpR n) := by
  unfold mpR
  cases c : inB n 1 12 with
  | false => exact ⟨0, fun k _ => by simp [spec_MeanOfPairs.f, waRings_eq, c]⟩
  | true =>
    have h1 := inB_lo c
    have h2 := inB_hi c
    obtain ⟨q, rfl⟩ : ∃ q : Nat, n = q := ⟨n.toNat, by omega⟩
    obtain ⟨p1, p2⟩ := pow12 (n := q) (by omega)
    have hm : 2 ^ q * 2 ^ q ≤ 4096 * 4096 := Nat.mul_le_mul p2 p2
    obtain ⟨K, hK⟩ := waLow_ev (2 ^ q * 2 ^ q - 1) (3 * 2 ^ q) (by omega) (by omega) (by omega)
    obtain ⟨e1, e2⟩ := pair_words q (by omega)
    refine ⟨K, fun k hk => ?_⟩
    have hK := hK k hk
    simp only at hK
    dsimp only
    rw [spec_MeanOfPairs.f, waRings_eq, c, Option.bind_some, if_pos rfl, if_pos (by omega), shl_pow2 (by omega), e1, e2, hK, Option.bind_some, if_pos rfl, Int.toNat_natCast]

/-! ### after impl_MeanOnAlong -/
def sumU (f : Nat → Nat) : Nat → Nat
  | 0 => 0
  | n + 1 => sumU f n + f n
theorem sumU_congr (f g : Nat → Nat) : ∀ n, (∀ j, j < n → f j = g j) → sumU f n = sumU g n
  | 0, _ => rfl
  | n + 1, h => by rw [sumU, sumU, sumU_congr f g n (fun j hj => h j (by omega)), h n (by omega)]
theorem sumU_head (f : Nat → Nat) : ∀ n, sumU f (n + 1) = f 0 + sumU (fun j => f (j + 1)) n
  | 0 => by simp [sumU]
  | n + 1 => by rw [sumU, sumU_head f n, sumU]; omega
theorem sumU_rev (f : Nat → Nat) : ∀ n, sumU (fun j => f (n - j)) (n + 1) = sumU f (n + 1)
  | 0 => rfl
  | n + 1 => by
    rw [sumU_head]
    show _ = sumU f (n + 1) + f (n + 1)
    rw [← sumU_rev f n]
    have e : sumU (fun j => f (n + 1 - (j + 1))) (n + 1) = sumU (fun j => f (n - j)) (n + 1) := sumU_congr _ _ _ (fun j hj => by rw [show n + 1 - (j + 1) = n - j by omega])
    rw [e, Nat.sub_zero]; omega
theorem sumU_le (f : Nat → Nat) (B : Nat) (h : ∀ j, f j ≤ B) : ∀ n, sumU f n ≤ B * n
  | 0 => by simp [sumU]
  | n + 1 => by
    have h1 := sumU_le f B h n
    have h2 := h n
    rw [sumU, Nat.mul_succ]; omega
/-- How many rings are on at so many numbers in a row. -/
def onSum (L x n : Nat) : Nat := sumU (fun j => pcN L (x + j)) n
def lowN (x y : Nat) : Nat := if x ≤ y then x else y
def alongS (a b : ByteArray) : Nat := onSum a.size (lowN (numS a) (numS b)) (dist (numS a) (numS b) + 1)
def alongR (a b : ByteArray) : Int × Int × Bool := if twoB a b = true ∧ a.size ≤ 12 then ((lowR (alongS a b) (dist (numS a) (numS b) + 1)).1, (lowR (alongS a b) (dist (numS a) (numS b) + 1)).2, true) else (0, 0, false)
theorem onSum_le (L x n : Nat) : onSum L x n ≤ L * n := sumU_le _ L (fun j => pcN_le L (x + j)) n
theorem along_facts {a b : ByteArray} (h : twoB a b = true) (h2 : a.size ≤ 12) : 1 ≤ a.size ∧ numS a ≤ 4095 ∧ numS b ≤ 4095 ∧ numS a < 2 ^ a.size ∧ numS b < 2 ^ a.size ∧ dist (numS a) (numS b) ≤ 4095 := by
  obtain ⟨d1, d2, d3⟩ := two_facts h
  obtain ⟨s1, _, _, _⟩ := state_facts d1
  obtain ⟨l1, l2, l3, l4, _⟩ := last_facts d1
  obtain ⟨m1, m2, m3, m4, _⟩ := last_facts d2
  rw [← d3] at m4
  have p := Nat.pow_le_pow_right (n := 2) (by omega) h2
  refine ⟨s1, by omega, by omega, by omega, by omega, ?_⟩
  unfold dist; split <;> omega
theorem along_l0 {a b : ByteArray} (h : twoB a b = true) (h2 : a.size ≤ 12) : ∀ (e i : Nat), i + e = dist (numS a) (numS b) + 1 →
    Ev (fun k => impl_MeanOnAlong.l0 k a (lowN (numS a) (numS b) : Int) ((lowN (numS a) (numS b) + dist (numS a) (numS b) : Nat) : Int) (onSum a.size (lowN (numS a) (numS b)) i : Int) ((lowN (numS a) (numS b) + i : Nat) : Int))
      ((lowR (alongS a b) (dist (numS a) (numS b) + 1)).1, (lowR (alongS a b) (dist (numS a) (numS b) + 1)).2, true) := by
  obtain ⟨f1, f2, f3, f4, f5, f6⟩ := along_facts h h2
  have hl : lowN (numS a) (numS b) + dist (numS a) (numS b) ≤ 4095 ∧ lowN (numS a) (numS b) + dist (numS a) (numS b) < 2 ^ a.size := by unfold lowN dist; split <;> omega
  intro e
  induction e with
  | zero =>
    intro i hi
    have hb := onSum_le a.size (lowN (numS a) (numS b)) (dist (numS a) (numS b) + 1)
    have hb2 : a.size * (dist (numS a) (numS b) + 1) ≤ 12 * 4096 := Nat.mul_le_mul h2 (by omega)
    obtain ⟨K, hK⟩ := low_ev (alongS a b) (dist (numS a) (numS b) + 1) (by unfold alongS; omega) (by omega) (by omega)
    refine Ev.next (f := fun _ => some ((lowR (alongS a b) (dist (numS a) (numS b) + 1)).1, (lowR (alongS a b) (dist (numS a) (numS b) + 1)).2, true)) ⟨K, fun k hk => ?_⟩ (Ev.now _)
    have hK := hK k hk
    simp only at hK
    have e1 : onSum a.size (lowN (numS a) (numS b)) i = alongS a b := by unfold alongS; rw [show i = dist (numS a) (numS b) + 1 by omega]
    have e2 : wrap64 (wrap64 (((lowN (numS a) (numS b) + dist (numS a) (numS b) : Nat) : Int) - (lowN (numS a) (numS b) : Int)) + 1) = ((dist (numS a) (numS b) + 1 : Nat) : Int) := by
      rw [w64 (a := ((lowN (numS a) (numS b) + dist (numS a) (numS b) : Nat) : Int) - (lowN (numS a) (numS b) : Int)) (by omega) (by omega), w64 (by omega) (by omega)]; omega
    rw [impl_MeanOnAlong.l0, if_neg (by omega), e1, e2, hK, Option.bind_some]
  | succ e ih =>
    intro i hi
    obtain ⟨K, hK⟩ := state_ev a.size (lowN (numS a) (numS b) + i) (by omega) (by omega)
    have hb := onSum_le a.size (lowN (numS a) (numS b)) (i + 1)
    have hb2 : a.size * (i + 1) ≤ 12 * 4096 := Nat.mul_le_mul h2 (by omega)
    have hs : onSum a.size (lowN (numS a) (numS b)) (i + 1) = onSum a.size (lowN (numS a) (numS b)) i + pcN a.size (lowN (numS a) (numS b) + i) := rfl
    refine Ev.next ⟨K, fun k hk => ?_⟩ (ih (i + 1) (by omega))
    have hK := hK k hk
    simp only at hK
    rw [impl_MeanOnAlong.l0, if_pos (by omega), hK, Option.bind_some, countOn_st _ _ f1 (by omega), Option.bind_some, w64 (by simp only; omega) (by simp only; omega), w64 (by omega) (by omega), hs]
    rfl
theorem implAlong_ev (a b : ByteArray) (ha : a.size ≤ 1048576) (hb : b.size ≤ 1048576) : Ev (fun k => impl_MeanOnAlong.f k a b) (alongR a b) := by
  unfold alongR
  by_cases c : twoB a b = true ∧ a.size ≤ 12
  · obtain ⟨c1, c2⟩ := c
    obtain ⟨d1, d2, d3⟩ := two_facts c1
    obtain ⟨K1, e1⟩ := number_ev d1
    obtain ⟨K2, e2⟩ := number_ev d2
    obtain ⟨K3, e3⟩ := along_l0 c1 c2 (dist (numS a) (numS b) + 1) 0 (by omega)
    have n1 : (grN a.data.toList : Int) = (numS a : Int) := rfl
    have n2 : (grN b.data.toList : Int) = (numS b : Int) := rfl
    rw [n1] at e1
    rw [n2] at e2
    have m1 : mn (numS a : Int) (numS b : Int) = (lowN (numS a) (numS b) : Int) := by unfold mn lowN; (repeat' split) <;> omega
    have m2 : mx (numS a : Int) (numS b : Int) = ((lowN (numS a) (numS b) + dist (numS a) (numS b) : Nat) : Int) := by unfold mx lowN dist; (repeat' split) <;> omega
    refine ⟨K1 + K2 + K3 + 1, fun k hk => ?_⟩
    obtain ⟨k, rfl⟩ : ∃ z, k = z + 1 := ⟨k - 1, by omega⟩
    have e1 := e1 k (by omega)
    have e2 := e2 k (by omega)
    have e3 := e3 k (by omega)
    simp only at e1 e2 e3
    dsimp only
    rw [if_pos ⟨c1, c2⟩, impl_MeanOnAlong.f, alike_eq a b ha hb, c1, Option.bind_some, if_pos rfl, isWalk_eq a ha, d1, decide_eq_true (show (a.size : Int) ≤ 12 by omega), Option.bind_some, impl_MeanOnAlong.j0, if_neg (by simp), e1, e2, Option.bind_some, Option.bind_some, Option.bind_some, Option.bind_some, m1, m2]
    exact e3
  · rw [if_neg c]
    refine ⟨1, fun k hk => ?_⟩
    obtain ⟨k, rfl⟩ : ∃ z, k = z + 1 := ⟨k - 1, by omega⟩
    dsimp only
    rw [impl_MeanOnAlong.f, alike_eq a b ha hb, Option.bind_some]
    cases c1 : twoB a b with
    | false => rw [if_neg (by simp), impl_MeanOnAlong.j0, if_pos rfl]
    | true =>
      rw [if_pos rfl, isWalk_eq a ha, Option.bind_some, (two_facts c1).1, decide_eq_false (show ¬ (a.size : Int) ≤ 12 by intro h; exact c ⟨c1, by omega⟩), impl_MeanOnAlong.j0, if_pos (by simp)]

/-! ### after spec_MeanOnAlong -/
theorem alongS_l0 {a b : ByteArray} (h : twoB a b = true) (h2 : a.size ≤ 12) : ∀ (e i : Nat), i + e = dist (numS a) (numS b) + 1 →
    Ev (fun k => spec_MeanOnAlong.l0 k a (numS a : Int) (numS b : Int) (onSum a.size (lowN (numS a) (numS b)) i : Int) ((lowN (numS a) (numS b) + i : Nat) : Int))
      ((lowR (alongS a b) (dist (numS a) (numS b) + 1)).1, (lowR (alongS a b) (dist (numS a) (numS b) + 1)).2, true) := by
  obtain ⟨f1, f2, f3, f4, f5, f6⟩ := along_facts h h2
  have hl : lowN (numS a) (numS b) + dist (numS a) (numS b) ≤ 4095 ∧ lowN (numS a) (numS b) + dist (numS a) (numS b) < 2 ^ a.size := by unfold lowN dist; split <;> omega
  have hm : spec_l1Most.f (numS a : Int) (numS b : Int) = some ((lowN (numS a) (numS b) + dist (numS a) (numS b) : Nat) : Int) := by
    unfold spec_l1Most.f lowN dist
    (repeat' split) <;> first | exact congrArg some (by omega) | omega
  intro e
  induction e with
  | zero =>
    intro i hi
    have hb := onSum_le a.size (lowN (numS a) (numS b)) (dist (numS a) (numS b) + 1)
    have hb2 : a.size * (dist (numS a) (numS b) + 1) ≤ 12 * 4096 := Nat.mul_le_mul h2 (by omega)
    obtain ⟨K, hK⟩ := waLow_ev (alongS a b) (dist (numS a) (numS b) + 1) (by unfold alongS; omega) (by omega) (by omega)
    refine Ev.next (f := fun _ => some ((lowR (alongS a b) (dist (numS a) (numS b) + 1)).1, (lowR (alongS a b) (dist (numS a) (numS b) + 1)).2, true)) ⟨K, fun k hk => ?_⟩ (Ev.now _)
    have hK := hK k hk
    simp only at hK
    have e1 : onSum a.size (lowN (numS a) (numS b)) i = alongS a b := by unfold alongS; rw [show i = dist (numS a) (numS b) + 1 by omega]
    have e2 : wrap64 ((dist (numS a) (numS b) : Int) + 1) = ((dist (numS a) (numS b) + 1 : Nat) : Int) := by rw [w64 (by omega) (by omega)]; omega
    rw [spec_MeanOnAlong.l0, hm, Option.bind_some, if_neg (by omega), abs_eq _ _ (by omega) (by omega), Option.bind_some, e1, e2, hK, Option.bind_some]
  | succ e ih =>
    intro i hi
    obtain ⟨K, hK⟩ := riState_ev a.size (lowN (numS a) (numS b) + i) (by omega) (by omega)
    obtain ⟨K2, hK2⟩ := riOn_ev (stB a.size (lowN (numS a) (numS b) + i)) (by rw [stB_size]; omega)
    rw [onN_stB] at hK2
    have hb := onSum_le a.size (lowN (numS a) (numS b)) (i + 1)
    have hb2 : a.size * (i + 1) ≤ 12 * 4096 := Nat.mul_le_mul h2 (by omega)
    have hs : onSum a.size (lowN (numS a) (numS b)) (i + 1) = onSum a.size (lowN (numS a) (numS b)) i + pcN a.size (lowN (numS a) (numS b) + i) := rfl
    refine Ev.next ⟨K + K2, fun k hk => ?_⟩ (ih (i + 1) (by omega))
    have hK := hK k (by omega)
    have hK2 := hK2 k (by omega)
    simp only at hK hK2
    rw [spec_MeanOnAlong.l0, hm, Option.bind_some, if_pos (by omega), hK, Option.bind_some, hK2, Option.bind_some, w64 (by omega) (by omega), w64 (by omega) (by omega), hs]
    rfl
theorem specAlong_ev (a b : ByteArray) : Ev (fun k => spec_MeanOnAlong.f k a b) (alongR a b) := by
  unfold alongR
  obtain ⟨K0, e0⟩ := riTwo_ev a b
  by_cases c : twoB a b = true ∧ a.size ≤ 12
  · obtain ⟨c1, c2⟩ := c
    obtain ⟨d1, d2, d3⟩ := two_facts c1
    obtain ⟨K1, e1⟩ := waNumbers_ev d1 d2
    obtain ⟨K3, e3⟩ := alongS_l0 c1 c2 (dist (numS a) (numS b) + 1) 0 (by omega)
    have hm : spec_l1Least.f (numS a : Int) (numS b : Int) = some (lowN (numS a) (numS b) : Int) := by
      unfold spec_l1Least.f lowN
      (repeat' split) <;> first | exact congrArg some (by omega) | omega
    refine ⟨K0 + K1 + K3 + 1, fun k hk => ?_⟩
    obtain ⟨k, rfl⟩ : ∃ z, k = z + 1 := ⟨k - 1, by omega⟩
    have e0 := e0 (k + 1) (by omega)
    have e1 := e1 k (by omega)
    have e3 := e3 k (by omega)
    simp only at e0 e1 e3
    dsimp only
    rw [if_pos ⟨c1, c2⟩, spec_MeanOnAlong.f, e0, c1, Option.bind_some, if_pos rfl, decide_eq_false (show ¬ (a.size : Int) > 12 by omega), spec_MeanOnAlong.j0, if_neg (by simp), e1, Option.bind_some, hm, Option.bind_some]
    exact e3
  · rw [if_neg c]
    refine ⟨K0 + 1, fun k hk => ?_⟩
    obtain ⟨k, rfl⟩ : ∃ z, k = z + 1 := ⟨k - 1, by omega⟩
    have e0 := e0 (k + 1) (by omega)
    simp only at e0
    dsimp only
    rw [spec_MeanOnAlong.f, e0, Option.bind_some]
    cases c1 : twoB a b with
    | false => rw [if_neg (by simp), spec_MeanOnAlong.j0, if_pos rfl]
    | true => rw [if_pos rfl, decide_eq_true (show (a.size : Int) > 12 by have : ¬ a.size ≤ 12 := fun h => c ⟨c1, h⟩; omega), spec_MeanOnAlong.j0, if_pos rfl]

/-! ### after impl_zeros -/
theorem zeros_l0 : ∀ n : Nat, 0 < n → n ≤ 4611686018427387904 → ∀ x : Int, ∃ z : Int, Ev (fun k => impl_zeros.l0 k (n : Int) x) z := by
  intro n
  induction n using Nat.strongRecOn with
  | ind n ih =>
    intro h0 h1 x
    by_cases c : n % 2 = 0
    · obtain ⟨z, hz⟩ := ih (n / 2) (by omega) (by omega) (by omega) (wrap64 (x + 1))
      refine ⟨z, Ev.next ⟨0, fun k _ => ?_⟩ hz⟩
      have e1 : Int.tmod (n : Int) 2 = ((n % 2 : Nat) : Int) := rfl
      have e2 : Int.tdiv (n : Int) 2 = ((n / 2 : Nat) : Int) := rfl
      rw [impl_zeros.l0, e1, if_pos (by omega), e2, w64 (a := ((n / 2 : Nat) : Int)) (by omega) (by omega)]
    · refine ⟨x, Ev.last fun k => ?_⟩
      have e1 : Int.tmod (n : Int) 2 = ((n % 2 : Nat) : Int) := rfl
      rw [impl_zeros.l0, e1, if_neg (by omega)]

/-! ### after impl_next -/
theorem next_ev (n t : Nat) (hn : n ≤ 1048576) (ht : t ≤ 1048576) (hne : ¬ n = t) : ∃ z : Int, Ev (fun k => impl_next.f k (n : Int) (t : Int)) (((if n < t then n + 1 else n - 1 : Nat) : Int), z) := by
  by_cases c : n < t
  · obtain ⟨z, K, hK⟩ := zeros_l0 (n + 1) (by omega) (by omega) 0
    refine ⟨z, K, fun k hk => ?_⟩
    have hK := hK k hk
    simp only at hK
    dsimp only
    have ew : wrap64 ((n : Int) + 1) = ((n + 1 : Nat) : Int) := by rw [w64 (by omega) (by omega)]; omega
    rw [impl_next.f, if_pos (by omega), if_pos c, ew, impl_zeros.f, hK, Option.bind_some]
  · obtain ⟨z, K, hK⟩ := zeros_l0 n (by omega) (by omega) 0
    refine ⟨z, K, fun k hk => ?_⟩
    have hK := hK k hk
    simp only at hK
    dsimp only
    have ew : wrap64 ((n : Int) - 1) = ((n - 1 : Nat) : Int) := by rw [w64 (by omega) (by omega)]; omega
    rw [impl_next.f, if_neg (by omega), if_neg c, ew, impl_zeros.f, hK, Option.bind_some]

/-! ### after impl_StatesBetween -/
theorem stB_self {s : ByteArray} (h : stateB s = true) : stB s.size (numS s) = s := by
  obtain ⟨_, _, s3, _⟩ := state_facts h
  have e := grS_grN s.data.toList s3
  rw [← Lib.size_eq s] at e
  unfold stB numS
  rw [e]
def stepN (x y i : Nat) : Nat := if x ≤ y then x + i else x - i
def betL (L x y d : Nat) : List ByteArray := (List.range d).map fun j => stB L (stepN x y j)
def betR (a b : ByteArray) : List ByteArray × Bool := if twoB a b = true ∧ dist (numS a) (numS b) + 1 ≤ 2000 then (betL a.size (numS a) (numS b) (dist (numS a) (numS b) + 1), true) else ([], false)
theorem between_l0 {a b : ByteArray} (h : twoB a b = true) (hd : dist (numS a) (numS b) + 1 ≤ 2000) : ∀ (e i : Nat), i + e = dist (numS a) (numS b) →
    Ev (fun k => impl_StatesBetween.l0 k a (betL a.size (numS a) (numS b) (i + 1)) (stepN (numS a) (numS b) i : Int) (numS b : Int)) (betL a.size (numS a) (numS b) (dist (numS a) (numS b) + 1), true) := by
  obtain ⟨d1, d2, d3⟩ := two_facts h
  obtain ⟨s1, s2, _, _⟩ := state_facts d1
  obtain ⟨l1, l2, l3, l4, _⟩ := last_facts d1
  obtain ⟨m1, m2, m3, m4, _⟩ := last_facts d2
  rw [← d3] at m4
  intro e
  induction e with
  | zero =>
    intro i hi
    refine Ev.last fun k => ?_
    have e1 : stepN (numS a) (numS b) i = numS b := by
      have : i = dist (numS a) (numS b) := by omega
      subst this; unfold stepN dist; (repeat' split) <;> omega
    rw [impl_StatesBetween.l0, if_pos (by omega), show i = dist (numS a) (numS b) by omega]
  | succ e ih =>
    intro i hi
    have e1 : ¬ stepN (numS a) (numS b) i = numS b ∧ stepN (numS a) (numS b) i ≤ 1048575 ∧ (if stepN (numS a) (numS b) i < numS b then stepN (numS a) (numS b) i + 1 else stepN (numS a) (numS b) i - 1) = stepN (numS a) (numS b) (i + 1) ∧ stepN (numS a) (numS b) (i + 1) < 2 ^ a.size := by
      have hi : i + (e + 1) = dist (numS a) (numS b) := hi
      revert hi
      unfold stepN dist
      (repeat' split) <;> omega
    obtain ⟨q1, q2, q3, q4⟩ := e1
    obtain ⟨z, K, hK⟩ := next_ev (stepN (numS a) (numS b) i) (numS b) (by omega) (by omega) q1
    rw [q3] at hK
    obtain ⟨K2, hK2⟩ := state_ev a.size (stepN (numS a) (numS b) (i + 1)) (by omega) q4
    have hlen : (betL a.size (numS a) (numS b) (i + 1)).length = i + 1 := by simp [betL]
    have hadd : betL a.size (numS a) (numS b) (i + 1) ++ [stB a.size (stepN (numS a) (numS b) (i + 1))] = betL a.size (numS a) (numS b) (i + 1 + 1) := by
      unfold betL; rw [List.range_succ (n := i + 1), List.map_append]; rfl
    refine Ev.next ⟨K + K2, fun k hk => ?_⟩ (ih (i + 1) (by omega))
    have hK := hK k (by omega)
    have hK2 := hK2 k (by omega)
    simp only at hK hK2
    rw [impl_StatesBetween.l0, if_neg (by omega), hK, Option.bind_some, hK2, Option.bind_some, if_pos (by omega), hadd]
theorem between_ev (a b : ByteArray) (ha : a.size ≤ 1048576) (hb : b.size ≤ 1048576) : Ev (fun k => impl_StatesBetween.f k a b) (betR a b) := by
  unfold betR
  cases c1 : twoB a b with
  | false =>
    refine ⟨1, fun k hk => ?_⟩
    obtain ⟨k, rfl⟩ : ∃ z, k = z + 1 := ⟨k - 1, by omega⟩
    dsimp only
    rw [impl_StatesBetween.f, alike_eq a b ha hb, c1, Option.bind_some, if_neg (by simp), impl_StatesBetween.j0, if_pos rfl, if_neg (by simp)]
  | true =>
    obtain ⟨d1, d2, d3⟩ := two_facts c1
    obtain ⟨l1, l2, l3, l4, _⟩ := last_facts d1
    obtain ⟨m1, m2, m3, m4, _⟩ := last_facts d2
    obtain ⟨K1, e1⟩ := number_ev d1
    obtain ⟨K2, e2⟩ := number_ev d2
    have n1 : (grN a.data.toList : Int) = (numS a : Int) := rfl
    have n2 : (grN b.data.toList : Int) = (numS b : Int) := rfl
    rw [n1] at e1
    rw [n2] at e2
    have hD : dist (numS a) (numS b) ≤ 1048575 := by unfold dist; split <;> omega
    by_cases c : dist (numS a) (numS b) + 1 ≤ 2000
    · obtain ⟨K3, e3⟩ := between_l0 c1 c (dist (numS a) (numS b)) 0 (by omega)
      have e0 : betL a.size (numS a) (numS b) (0 + 1) = [a] := by
        show [stB a.size (stepN (numS a) (numS b) 0)] = [a]
        rw [show stepN (numS a) (numS b) 0 = numS a by unfold stepN; split <;> rfl, stB_self d1]
      have e4 : stepN (numS a) (numS b) 0 = numS a := by unfold stepN; split <;> rfl
      rw [e0, e4] at e3
      refine ⟨K1 + K2 + K3 + 1, fun k hk => ?_⟩
      obtain ⟨k, rfl⟩ : ∃ z, k = z + 1 := ⟨k - 1, by omega⟩
      have f1 := e1 (k + 1) (by omega)
      have f2 := e2 (k + 1) (by omega)
      have e1 := e1 k (by omega)
      have e2 := e2 k (by omega)
      have e3 := e3 k (by omega)
      simp only at e1 e2 e3 f1 f2
      dsimp only
      rw [impl_StatesBetween.f, alike_eq a b ha hb, c1, Option.bind_some, if_pos rfl, f1, Option.bind_some, f2, Option.bind_some, apart_eq _ _ (by omega) (by omega), Option.bind_some, w64 (by omega) (by omega), decide_eq_false (by omega), impl_StatesBetween.j0, if_neg (by simp), e1, Option.bind_some, e2, Option.bind_some, if_pos ⟨rfl, c⟩]
      exact e3
    · refine ⟨K1 + K2 + 1, fun k hk => ?_⟩
      obtain ⟨k, rfl⟩ : ∃ z, k = z + 1 := ⟨k - 1, by omega⟩
      have f1 := e1 (k + 1) (by omega)
      have f2 := e2 (k + 1) (by omega)
      simp only at f1 f2
      dsimp only
      rw [impl_StatesBetween.f, alike_eq a b ha hb, c1, Option.bind_some, if_pos rfl, f1, Option.bind_some, f2, Option.bind_some, apart_eq _ _ (by omega) (by omega), Option.bind_some, w64 (by omega) (by omega), decide_eq_true (by omega), impl_StatesBetween.j0, if_pos rfl, if_neg (fun h => c h.2)]

end Go.Proofs.YtcogjabdddikjaaDoor.PSCnt
