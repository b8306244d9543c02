/- What the printed functions answer, function by function: plain statements, without memory. (wip/after) -/
import Derived.Test.YtepaleeepbjkbaaDoorPIsDeskx
import Derived.Test.YtepaleeepbjkbaaDoorEv
import Derived.Test.YtepaleeepbjkbaaDoorState
namespace Go.Proofs.YtepaleeepbjkbaaDoor.PIsDesk
open Go.RowKit Go.Proofs.YtepaleeepbjkbaaDoorW.PrintWords Go.Proofs.YtepaleeepbjkbaaDoorW.PrintLast Go.Proofs.YtepaleeepbjkbaaDoorW.PrintMore
set_option linter.unusedVariables false
set_option linter.unusedSimpArgs false
/-! ### after laws_eqStringS -/
theorem laws_eqStringS.ev (l : List ByteArray) (hl : l.length ≤ 9223372036854775807) : Ev (fun k => laws_eqStringS.f k l l) true := by
  unfold laws_eqStringS.f
  refine Ev.congr (f := fun k => laws_eqStringS.l0 k l l 0) (fun k => if_pos rfl) ?_
  refine eq_ev laws_eqStringS.l0 ?_ ?_ l hl
  · intro l i h hl
    refine ⟨0, fun k _ => ?_⟩
    have ew : wrap64 ((i : Int) + 1) = ((i + 1 : Nat) : Int) := by rw [w64 (by omega) (by omega)]; omega
    rw [laws_eqStringS.l0, if_pos (by omega), if_pos (by omega), if_pos (by omega)]
    simp [ew]
  · intro k l
    rw [laws_eqStringS.l0, if_neg (by omega)]

/-! ### after laws_szStringS -/
theorem szStringS_l0 : ∀ (n i : Nat) (l : List ByteArray) (a : Int), i + n = l.length → 0 ≤ a → a ≤ 1048576 → l.length ≤ 9223372036854775807 → (∀ s ∈ l, s.size ≤ 9223372036854775807) →
    ∃ v : Int, Ev (fun k => laws_szStringS.l0 k l a (i : Int)) v ∧ v ≤ a ∧ (0 ≤ v → ∀ s ∈ l.drop i, (s.size : Int) ≤ 1048576) := by
  intro n
  induction n with
  | zero =>
    intro i l a hi h0 h1 hl hs
    refine ⟨a, Ev.last fun k => ?_, by omega, fun _ s hs' => ?_⟩
    · rw [laws_szStringS.l0, if_neg (by omega)]
    · rw [List.drop_of_length_le (by omega)] at hs'; cases hs'
  | succ n ih =>
    intro i l a hi h0 h1 hl hs
    have hlt : i < l.length := by omega
    have hsz := hs l[i] (List.getElem_mem hlt)
    have er : rdOf ByteArray.empty l (i : Int) = l[i] := by simp [rdOf, hlt]
    have ew : wrap64 ((i : Int) + 1) = ((i + 1 : Nat) : Int) := by rw [w64 (by omega) (by omega)]; omega
    have ea : wrap64 (a - l[i].size) = a - l[i].size := w64 (by omega) (by omega)
    by_cases c : a - (l[i].size : Int) < 0
    · refine ⟨-1, Ev.next (f := fun _ => some (-1)) ⟨0, fun k _ => ?_⟩ (Ev.now _), by omega, fun h => by omega⟩
      rw [laws_szStringS.l0, if_pos (by omega), if_pos (by omega)]
      simp only [er, ea]
      rw [if_pos c]
    · obtain ⟨v, hv, hva, hvs⟩ := ih (i + 1) l (a - l[i].size) (by omega) (by omega) (by omega) hl hs
      refine ⟨v, Ev.next ⟨0, fun k _ => ?_⟩ hv, by omega, fun h s hs' => ?_⟩
      · rw [laws_szStringS.l0, if_pos (by omega), if_pos (by omega)]
        simp only [er, ea]
        rw [if_neg c, ew]
      · rw [List.drop_eq_getElem_cons hlt, List.mem_cons] at hs'
        rcases hs' with rfl | h'
        · omega
        · exact hvs h s h'
theorem laws_szStringS.ev (l : List ByteArray) (hl : l.length ≤ 9223372036854775807) (hs : ∀ s ∈ l, s.size ≤ 9223372036854775807) :
    ∃ v : Int, Ev (fun k => laws_szStringS.f k l 1048576) v ∧ (0 ≤ v → l.length ≤ 1048576 ∧ ∀ s ∈ l, s.size ≤ 1048576) := by
  have ea : wrap64 (1048576 - (l.length : Int)) = 1048576 - (l.length : Int) := w64 (by omega) (by omega)
  by_cases c : 1048576 - (l.length : Int) < 0
  · refine ⟨-1, Ev.same (f := fun _ => some (-1)) ⟨0, fun k _ => ?_⟩ (Ev.now _), fun h => by omega⟩
    simp only [laws_szStringS.f, ea]
    rw [if_pos c]
  · obtain ⟨v, hv, _, hvs⟩ := szStringS_l0 l.length 0 l (1048576 - l.length) (by omega) (by omega) (by omega) hl hs
    refine ⟨v, Ev.same ⟨0, fun k _ => ?_⟩ hv, fun h => ⟨by omega, fun s h' => by have := hvs h s (by simpa using h'); omega⟩⟩
    simp only [laws_szStringS.f, ea]
    rw [if_neg c]
    rfl
theorem laws_szStringS.evA (l : List ByteArray) (a : Int) (h0 : 0 ≤ a) (h1 : a ≤ 1048576) (hl : l.length ≤ 9223372036854775807) (hs : ∀ s ∈ l, s.size ≤ 9223372036854775807) :
    ∃ v : Int, Ev (fun k => laws_szStringS.f k l a) v ∧ (0 ≤ v → l.length ≤ 1048576 ∧ ∀ s ∈ l, s.size ≤ 1048576) := by
  have ea : wrap64 (a - (l.length : Int)) = a - (l.length : Int) := w64 (by omega) (by omega)
  by_cases c : a - (l.length : Int) < 0
  · refine ⟨-1, Ev.same (f := fun _ => some (-1)) ⟨0, fun k _ => ?_⟩ (Ev.now _), fun h => by omega⟩
    simp only [laws_szStringS.f, ea]
    rw [if_pos c]
  · obtain ⟨v, hv, _, hvs⟩ := szStringS_l0 l.length 0 l (a - l.length) (by omega) (by omega) (by omega) hl hs
    refine ⟨v, Ev.same ⟨0, fun k _ => ?_⟩ hv, fun h => ⟨by omega, fun s h' => by have := hvs h s (by simpa using h'); omega⟩⟩
    simp only [laws_szStringS.f, ea]
    rw [if_neg c]
    rfl

/-! ### after laws_toStringS -/
theorem laws_toStringS.ev (l : List ByteArray) (hl : l.length ≤ 1048576) : Ev (fun k => laws_toStringS.f k l) l := by
  have h1 : 0 ≤ (l.length : Int) := by omega
  have h2 : (l.length : Int).toNat ≤ 17592186044416 := by omega
  unfold laws_toStringS.f
  simp only [if_pos h1, if_pos h2]
  have key : Ev (fun k => laws_toStringS.l0 k l (List.replicate (l.length : Int).toNat (⟨#[]⟩ : ByteArray)) 0) (l.map fun x => x) := to_ev laws_toStringS.l0 (fun x : ByteArray => x) (fun l acc i h hc hl => by
    refine ⟨0, fun k _ => ?_⟩
    have e : rdOf ByteArray.empty l (i : Int) = l[i] := by simp [rdOf, h]
    have ew : wrap64 ((i : Int) + 1) = ((i + 1 : Nat) : Int) := by rw [w64 (by omega) (by omega)]; omega
    rw [laws_toStringS.l0, if_pos (by omega), if_pos (by omega), if_pos (by omega), e, ew]
    rfl) (fun k l acc => by rw [laws_toStringS.l0, if_neg (by omega)]) l _ (by simp) (by omega)
  have e : (l.map fun x : ByteArray => x) = l := by simp
  rw [e] at key
  exact key

/-! ### after spec_riGood -/
theorem riGood_ev (s : ByteArray) : Ev (fun k => spec_riGood.f k s) (stateB s) := by
  have e1 : ∀ k, spec_riGood.f k s = if inB (s.size : Int) 1 20 = true then spec_riGood.l0 k s 0 else some false := by
    intro k
    simp only [spec_riGood.f, spec_l1In.f, inB_ite, Option.bind_some]
  refine Ev.congr e1 ?_
  unfold stateB
  cases h : inB (s.size : Int) 1 20
  · exact Ev.now _
  · have hs : s.size ≤ 20 := by have := inB_hi h; omega
    have hz : s.size = s.data.toList.length := Lib.size_eq s
    have := any_ev (fun k i => spec_riGood.l0 k s i) s.data.toList (fun b => !isBit b) false true (fun i hi => ⟨1, fun k hk => by
      obtain ⟨k, rfl⟩ : ∃ m, k = m + 1 := ⟨k - 1, by omega⟩
      have ew : wrap64 ((i : Int) + 1) = ((i + 1 : Nat) : Int) := by rw [w64 (by omega) (by omega)]; omega
      have eb := bt_nat s i hi
      rw [spec_riGood.l0, if_pos (by omega), if_pos (by omega), eb, ew]
      have q8 := byte_toInt s.data.toList[i] 48 (by omega)
      have q9 := byte_toInt s.data.toList[i] 49 (by omega)
      simp only [Int.cast_ofNat_Int] at q8 q9
      simp only [q8, q9, isBit]
      generalize s.data.toList[i] = b
      by_cases c8 : b = 48
      · simp [c8]
      · by_cases c9 : b = 49
        · simp [c9]
        · simp [c8, c9]⟩) (fun k => by rw [spec_riGood.l0, if_neg (by omega)])
    have ha : (!(s.data.toList.any fun b => !isBit b)) = s.data.toList.all isBit := by simp [List.all_eq_not_any_not]
    simp only [Bool.true_and, if_true]
    rw [← ha]
    cases hq : s.data.toList.any fun b => !isBit b <;> simpa [hq] using this

/-! ### after impl_IsState -/
theorem isState_eq (s : ByteArray) (h : s.size ≤ 9223372036854775807) : impl_IsState.f s = some (stateB s) := by
  have ht : strings_Trim.f s (⟨#[48, 49]⟩ : ByteArray) = some ⟨(Lib.trimS s.data.toList [48, 49]).toArray⟩ := by
    unfold strings_Trim.f
    rw [if_pos ⟨h, by decide, by decide⟩]
  simp only [impl_IsState.f, impl_in.f, inB_ite, Option.bind_some, ht, trimS_beq, isBit_contains, stateB]
  cases inB (s.size : Int) 1 20 <;> simp

/-! ### after spec_keGood -/
theorem keInner (l : List ByteArray) (s : ByteArray) (i : Nat) (hs : s.size ≤ 1000) : ∀ (n p : Nat), p + n = s.size → ∀ r, Ev (fun k => spec_keGood.l0 k l l (l.length : Int) (wrap64 ((i : Int) + 1))) r →
    Ev (fun k => spec_keGood.l1 k l s (p : Int) l (l.length : Int) (i : Int)) (if (s.data.toList.drop p).all isSign = true then r else false) := by
  have hz : s.size = s.data.toList.length := Lib.size_eq s
  intro n
  induction n with
  | zero =>
    intro p hp r hr
    rw [List.drop_of_length_le (by omega)]
    simp only [List.all_nil, if_true]
    refine Ev.next ⟨0, fun k _ => ?_⟩ hr
    rw [spec_keGood.l1, if_neg (by omega)]
  | succ n ih =>
    intro p hp r hr
    have hpl : p < s.data.toList.length := by omega
    have ih := ih (p + 1) (by omega) r hr
    have ew : wrap64 ((p : Int) + 1) = ((p + 1 : Nat) : Int) := by rw [w64 (by omega) (by omega)]; omega
    have eb := bt_nat s p hpl
    have q48 : ((s.data.toList[p].toNat : Int) = 48) = (s.data.toList[p] = 48) := byte_toInt _ 48 (by omega)
    have q49 : ((s.data.toList[p].toNat : Int) = 49) = (s.data.toList[p] = 49) := byte_toInt _ 49 (by omega)
    have q63 : ((s.data.toList[p].toNat : Int) = 63) = (s.data.toList[p] = 63) := byte_toInt _ 63 (by omega)
    rw [List.drop_eq_getElem_cons hpl, List.all_cons]
    by_cases c : isSign s.data.toList[p] = true
    · rw [c, Bool.true_and]
      refine Ev.next ⟨0, fun k _ => ?_⟩ ih
      rw [spec_keGood.l1, if_pos (by omega), if_pos (by omega), eb, ew]
      simp only [q48, q49, q63]
      simp only [isSign, Bool.or_eq_true, beq_iff_eq] at c
      by_cases c1 : s.data.toList[p] = 63
      · rw [if_pos c1]
      · by_cases c2 : s.data.toList[p] = 48
        · rw [if_neg c1, if_pos c2]
        · rw [if_neg c1, if_neg c2, if_pos (by rcases c with (h | h) | h <;> first | exact h | exact absurd h c2 | exact absurd h c1)]
    · have c' : isSign s.data.toList[p] = false := by simpa using c
      rw [c', Bool.false_and]
      simp only [Bool.false_eq_true, if_false]
      refine Ev.last fun k => ?_
      rw [spec_keGood.l1, if_pos (by omega), if_pos (by omega), eb]
      simp only [q48, q49, q63]
      simp only [isSign, Bool.or_eq_true, beq_iff_eq, not_or] at c
      rw [if_neg c.2, if_neg c.1.1, if_neg c.1.2]
theorem keOuter (l : List ByteArray) (hl : l.length ≤ 10) : ∀ (n i : Nat), i + n = l.length → Ev (fun k => spec_keGood.l0 k l l (l.length : Int) (i : Int)) (!((List.range' i n).any fun i => !keyB l.length i (l.getD i ByteArray.empty))) := by
  intro n
  induction n with
  | zero =>
    intro i hi
    refine Ev.last fun k => ?_
    rw [spec_keGood.l0, if_neg (by omega)]; rfl
  | succ n ih =>
    intro i hi
    have hil : i < l.length := by omega
    have ih := ih (i + 1) (by omega)
    have er : rdOf ByteArray.empty l (i : Int) = l[i] := by simp [rdOf, hil]
    have eg : l.getD i ByteArray.empty = l[i] := by simp [List.getD, List.getElem?_eq_getElem hil]
    have ew : wrap64 ((i : Int) + 1) = ((i + 1 : Nat) : Int) := by rw [w64 (by omega) (by omega)]; omega
    rw [List.range'_succ, List.any_cons, eg]
    by_cases hz : l[i].size = l.length
    · have hzl : l[i].size = l[i].data.toList.length := Lib.size_eq _
      have hij : i < l[i].data.toList.length := by omega
      have eb := bt_nat l[i] i hij
      have q63 : ((l[i].data.toList[i].toNat : Int) = 63) = (l[i].data.toList[i] = 63) := byte_toInt _ 63 (by omega)
      have ed : l[i].data.toList.getD i 0 = l[i].data.toList[i] := by simp [List.getD, List.getElem?_eq_getElem hij]
      have hin := keInner l l[i] i (by omega) l[i].size 0 (by omega) _ (by rw [ew]; exact ih)
      rw [List.drop_zero] at hin
      by_cases c : l[i].data.toList[i] = 63
      · have hk : keyB l.length i l[i] = l[i].data.toList.all isSign := by simp only [keyB, needB, ed, c, hz, beq_self_eq_true, Bool.true_and, Bool.and_true]
        rw [hk]
        refine Ev.next (f := fun k => spec_keGood.j1 k l l[i] l (l.length : Int) (i : Int) false) ⟨0, fun k _ => ?_⟩ (Ev.next (f := fun k => spec_keGood.l1 k l l[i] 0 l (l.length : Int) (i : Int)) ⟨0, fun k _ => by rw [spec_keGood.j1]; simp⟩ ?_)
        · rw [spec_keGood.l0, if_pos (by omega), if_pos (by omega), if_pos (by omega), er, if_pos (by omega), if_pos (by omega), eb]
          have : (((l[i].data.toList[i].toNat : Int)) != 63) = false := bne_eq_false_iff_eq.mpr (q63.mpr c)
          rw [this]
        · cases hq : l[i].data.toList.all isSign
          · rw [hq] at hin; simpa using hin
          · rw [hq] at hin; simpa using hin
      · have hk : keyB l.length i l[i] = false := by
          have hb : (l[i].data.toList[i] == 63) = false := by simpa using c
          rw [keyB, ed, hb, Bool.and_false]
        rw [hk]
        refine Ev.next (f := fun k => spec_keGood.j1 k l l[i] l (l.length : Int) (i : Int) true) ⟨0, fun k _ => ?_⟩ (Ev.last fun k => by rw [spec_keGood.j1]; simp)
        rw [spec_keGood.l0, if_pos (by omega), if_pos (by omega), if_pos (by omega), er, if_pos (by omega), if_pos (by omega), eb]
        have : (((l[i].data.toList[i].toNat : Int)) != 63) = true := bne_iff_ne.mpr (fun h => c (q63.mp h))
        rw [this]
    · have hk : keyB l.length i l[i] = false := by simp [keyB, needB, hz]
      rw [hk]
      refine Ev.next (f := fun k => spec_keGood.j1 k l l[i] l (l.length : Int) (i : Int) true) ⟨0, fun k _ => ?_⟩ (Ev.last fun k => by rw [spec_keGood.j1]; simp)
      rw [spec_keGood.l0, if_pos (by omega), if_pos (by omega), if_pos (by omega), er, if_neg (by omega)]
theorem keGood_ev (l : List ByteArray) : Ev (fun k => spec_keGood.f k l) (keysB l) := by
  have e1 : ∀ k, spec_keGood.f k l = if inB (l.length : Int) 1 10 = true then spec_keGood.l0 k l l (l.length : Int) 0 else some false := by
    intro k
    simp only [spec_keGood.f, spec_l1In.f, inB_ite, Option.bind_some]
  refine Ev.congr e1 ?_
  unfold keysB
  cases h : inB (l.length : Int) 1 10
  · simpa using Ev.now false
  · have := keOuter l (by have := inB_hi h; omega) l.length 0 (by omega)
    rw [← List.range_eq_range'] at this
    simpa using this

/-! ### after spec_keAsked -/
theorem keAsked_ev (l : List ByteArray) (s : ByteArray) : Ev (fun k => spec_keAsked.f k l s) (keysB l && (stateB s && (s.size == l.length))) := by
  obtain ⟨K1, h1⟩ := keGood_ev l
  obtain ⟨K2, h2⟩ := riGood_ev s
  refine ⟨K1 + K2, fun k hk => ?_⟩
  simp only [spec_keAsked.f, h1 k (by omega), h2 k (by omega), Option.bind_some]
  have e : ((s.size : Int) == (l.length : Int)) = (s.size == l.length) := by
    by_cases c : s.size = l.length
    · rw [c]; simp only [beq_self_eq_true]
    · have : ¬ (s.size : Int) = l.length := by omega
      rw [beq_eq_false_iff_ne.mpr this, beq_eq_false_iff_ne.mpr c]
  cases keysB l <;> cases stateB s <;> simp [e]

/-! ### after spec_IsDesk -/
theorem specIsDesk_ev (s : ByteArray) (l : List ByteArray) : Ev (fun k => spec_IsDesk.f k s l) (keysB l && (stateB s && (s.size == l.length))) := by
  obtain ⟨K1, h1⟩ := keAsked_ev l s
  exact ⟨K1, fun k hk => by simp [spec_IsDesk.f, spec_coGood.f, h1 k hk]⟩

/-! ### after laws_toDesk -/
theorem toDesk_ev (s : ByteArray) (l : List ByteArray) (hl : l.length ≤ 1048576) : Ev (fun k => laws_toDesk.f k s l) (s, l) := by
  obtain ⟨K, hK⟩ := laws_toStringS.ev l hl
  exact ⟨K, fun k hk => by simp [laws_toDesk.f, hK k hk]⟩

/-! ### after laws_eqDesk -/
theorem eqDesk_ev (s : ByteArray) (l : List ByteArray) (hl : l.length ≤ 9223372036854775807) : Ev (fun k => laws_eqDesk.f k s l s l) true := by
  obtain ⟨K, hK⟩ := laws_eqStringS.ev l hl
  exact ⟨K, fun k hk => by simp [laws_eqDesk.f, hK k hk]⟩

/-! ### after laws_szDesk -/
theorem szDesk_ev (s : ByteArray) (l : List ByteArray) (hz : s.size ≤ 9223372036854775807) (hl : l.length ≤ 9223372036854775807) (hs : ∀ s ∈ l, s.size ≤ 9223372036854775807) :
    ∃ v : Int, Ev (fun k => laws_szDesk.f k s l 1048576) v ∧ (0 ≤ v → l.length ≤ 1048576 ∧ s.size ≤ 1048576) := by
  have ea : wrap64 (1048576 - (s.size : Int)) = 1048576 - (s.size : Int) := w64 (by omega) (by omega)
  by_cases c : 1048576 - (s.size : Int) < 0
  · refine ⟨-1, ⟨0, fun k _ => ?_⟩, fun h => by omega⟩
    simp only [laws_szDesk.f, ea]
    rw [if_pos c]
  · obtain ⟨v, ⟨K, hK⟩, hv⟩ := laws_szStringS.evA l (1048576 - s.size) (by omega) (by omega) hl hs
    by_cases c2 : v < 0
    · refine ⟨-1, ⟨K, fun k hk => ?_⟩, fun h => by omega⟩
      simp only [laws_szDesk.f, ea, hK k hk, Option.bind_some]
      rw [if_neg c, if_pos c2]
    · refine ⟨v, ⟨K, fun k hk => ?_⟩, fun h => ⟨(hv h).1, by omega⟩⟩
      simp only [laws_szDesk.f, ea, hK k hk, Option.bind_some]
      rw [if_neg c, if_neg c2]

end Go.Proofs.YtepaleeepbjkbaaDoor.PIsDesk
