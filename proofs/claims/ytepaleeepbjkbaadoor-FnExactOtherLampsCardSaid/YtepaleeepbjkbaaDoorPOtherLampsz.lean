/- What the printed functions answer, function by function: plain statements, without memory. (wip/after) -/
import Derived.Test.YtepaleeepbjkbaaDoorPOtherLampsx
import Derived.Test.YtepaleeepbjkbaaDoorEv
import Derived.Test.YtepaleeepbjkbaaDoorState
namespace Go.Proofs.YtepaleeepbjkbaaDoor.POtherLamps
open Go.RowKit Go.Proofs.YtepaleeepbjkbaaDoorW.PrintWords Go.Proofs.YtepaleeepbjkbaaDoorW.PrintLast Go.Proofs.YtepaleeepbjkbaaDoorW.PrintMore
set_option linter.unusedVariables false
set_option linter.unusedSimpArgs false
/-! ### after laws_eqStringS -/
theorem laws_eqStringS.ev (l : List ByteArray) (hl : l.length ≤ 9223372036854775807) : Ev (fun k => laws_eqStringS.f k l l) true := by
  unfold laws_eqStringS.f
  refine Ev.congr (f := fun k => laws_eqStringS.l0 k l l 0) (fun k => if_pos rfl) ?_
  refine eq_ev laws_eqStringS.l0 ?_ ?_ l hl
  · intro l i h hl
    refine ⟨0, fun k _ => ?_⟩
    have ew : wrap64 ((i : Int) + 1) = ((i + 1 : Nat) : Int) := by rw [w64 (by omega) (by omega)]; omega
    rw [laws_eqStringS.l0, if_pos (by omega), if_pos (by omega), if_pos (by omega)]
    simp [ew]
  · intro k l
    rw [laws_eqStringS.l0, if_neg (by omega)]

/-! ### after laws_markText -/
theorem strOfNums_one (z : Int) : (strOfNums [z]).size = 1 := by simp [strOfNums]; rfl
theorem markText_l0 : ∀ (d n : Nat) (x : ByteArray), n < 10 ^ d → n ≤ 4611686018427387904 → x.size + d ≤ 1000 → ∃ r, laws_markText.l0 (d + 1) n x = some r := by
  intro d
  induction d with
  | zero =>
    intro n x hn hb hx
    have : n = 0 := by simpa using hn
    subst this
    rw [laws_markText.l0, if_neg (by omega), if_pos (by omega)]
    exact ⟨_, rfl⟩
  | succ d ih =>
    intro n x hn hb hx
    by_cases h0 : n = 0
    · subst h0
      rw [laws_markText.l0, if_neg (by omega), if_pos (by omega)]
      exact ⟨_, rfl⟩
    · have e : wrap64 (Int.tdiv (n : Int) 10) = ((n / 10 : Nat) : Int) := by
        have : Int.tdiv (n : Int) 10 = ((n / 10 : Nat) : Int) := by
          rw [Int.tdiv_eq_ediv_of_nonneg (by omega)]; rfl
        rw [this, w64 (by omega) (by omega)]
      rw [laws_markText.l0, if_pos (by omega)]
      simp only [Option.bind_some, strOfNums_one]
      rw [if_pos (by omega), e]
      refine ih (n / 10) _ ?_ (by omega) ?_
      · rw [Nat.pow_succ] at hn; omega
      · rw [ByteArray.size_append, strOfNums_one]; omega
/-- The text of a mark. -/
def markT (a : Int) : ByteArray := (laws_markText.f 40 a).getD ⟨#[]⟩
theorem markT_ev (a : Int) (h0 : 0 ≤ a) (hB : a ≤ 4611686018427387904) : Ev (fun k => laws_markText.f k a) (markT a) := by
  have h : ∃ r, laws_markText.f 40 a = some r := by
    unfold laws_markText.f
    by_cases h : a ≤ 0
    · rw [if_pos h]; exact ⟨_, rfl⟩
    · rw [if_neg h]
      obtain ⟨n, rfl⟩ : ∃ n : Nat, a = n := ⟨a.toNat, by omega⟩
      exact markText_l0 39 n _ (Nat.lt_of_le_of_lt (by omega : n ≤ 4611686018427387904) (by decide)) (by omega) (by decide)
  obtain ⟨r, hr⟩ := h
  unfold markT
  rw [hr]
  exact Ev.of (laws_markText.mono a) hr

/-! ### after laws_markStringS -/
theorem laws_markStringS.ev (l : List ByteArray) (a : Int) (h0 : 0 ≤ a) (hB : a + 1 * l.length ≤ 4611686018427387904) : Ev (fun k => laws_markStringS.f k l a) (a + 1 * l.length, marks markT 1 l.length a) := by
  unfold laws_markStringS.f
  refine mark_ev laws_markStringS.l0 markT 1 4611686018427387904 ?_ ?_ l a h0 hB (by omega)
  · intro l a i h h0 hB hl
    obtain ⟨K, hK⟩ := markT_ev a h0 (by omega)
    refine ⟨K, fun k hk => ?_⟩
    have ew : wrap64 ((i : Int) + 1) = ((i + 1 : Nat) : Int) := by rw [w64 (by omega) (by omega)]; omega
    have e1 : wrap64 (a + 1) = a + 1 := w64 (by omega) (by omega)
    have := hK k hk
    simp only at this
    rw [laws_markStringS.l0, if_pos (by omega), this, Option.bind_some, if_pos (by omega), ew, e1, Int.toNat_natCast]
    rfl
  · intro k l a
    rw [laws_markStringS.l0, if_neg (by omega)]

/-! ### after laws_heldStringS -/
theorem laws_heldStringS.ev (n : Nat) (a : Int) (h0 : 0 ≤ a) (hB : a + 1 * n ≤ 4611686018427387904) : Ev (fun k => laws_heldStringS.f k (marks markT 1 n a) a) (a + 1 * n) := by
  unfold laws_heldStringS.f
  refine held_ev laws_heldStringS.l0 markT 1 4611686018427387904 ?_ ?_ n a h0 hB (by omega)
  · intro l a i h h0 hB hl hv
    obtain ⟨K, hK⟩ := markT_ev a h0 (by omega)
    refine ⟨K, fun k hk => ?_⟩
    have ew : wrap64 ((i : Int) + 1) = ((i + 1 : Nat) : Int) := by rw [w64 (by omega) (by omega)]; omega
    have e1 : wrap64 (a + 1) = a + 1 := w64 (by omega) (by omega)
    have := hK k hk
    simp only at this
    have er : rdOf ByteArray.empty l (i : Int) = markT a := by rw [← hv]; simp [rdOf, h]
    rw [laws_heldStringS.l0, if_pos (by omega), if_pos (by omega), this, Option.bind_some, er, if_pos rfl, ew, e1]
    rfl
  · intro k l a
    rw [laws_heldStringS.l0, if_neg (by omega)]

/-! ### after laws_szStringS -/
theorem szStringS_l0 : ∀ (n i : Nat) (l : List ByteArray) (a : Int), i + n = l.length → 0 ≤ a → a ≤ 1048576 → l.length ≤ 9223372036854775807 → (∀ s ∈ l, s.size ≤ 9223372036854775807) →
    ∃ v : Int, Ev (fun k => laws_szStringS.l0 k l a (i : Int)) v ∧ v ≤ a ∧ (0 ≤ v → ∀ s ∈ l.drop i, (s.size : Int) ≤ 1048576) := by
  intro n
  induction n with
  | zero =>
    intro i l a hi h0 h1 hl hs
    refine ⟨a, Ev.last fun k => ?_, by omega, fun _ s hs' => ?_⟩
    · rw [laws_szStringS.l0, if_neg (by omega)]
    · rw [List.drop_of_length_le (by omega)] at hs'; cases hs'
  | succ n ih =>
    intro i l a hi h0 h1 hl hs
    have hlt : i < l.length := by omega
    have hsz := hs l[i] (List.getElem_mem hlt)
    have er : rdOf ByteArray.empty l (i : Int) = l[i] := by simp [rdOf, hlt]
    have ew : wrap64 ((i : Int) + 1) = ((i + 1 : Nat) : Int) := by rw [w64 (by omega) (by omega)]; omega
    have ea : wrap64 (a - l[i].size) = a - l[i].size := w64 (by omega) (by omega)
    by_cases c : a - (l[i].size : Int) < 0
    · refine ⟨-1, Ev.next (f := fun _ => some (-1)) ⟨0, fun k _ => ?_⟩ (Ev.now _), by omega, fun h => by omega⟩
      rw [laws_szStringS.l0, if_pos (by omega), if_pos (by omega)]
      simp only [er, ea]
      rw [if_pos c]
    · obtain ⟨v, hv, hva, hvs⟩ := ih (i + 1) l (a - l[i].size) (by omega) (by omega) (by omega) hl hs
      refine ⟨v, Ev.next ⟨0, fun k _ => ?_⟩ hv, by omega, fun h s hs' => ?_⟩
      · rw [laws_szStringS.l0, if_pos (by omega), if_pos (by omega)]
        simp only [er, ea]
        rw [if_neg c, ew]
      · rw [List.drop_eq_getElem_cons hlt, List.mem_cons] at hs'
        rcases hs' with rfl | h'
        · omega
        · exact hvs h s h'
theorem laws_szStringS.ev (l : List ByteArray) (hl : l.length ≤ 9223372036854775807) (hs : ∀ s ∈ l, s.size ≤ 9223372036854775807) :
    ∃ v : Int, Ev (fun k => laws_szStringS.f k l 1048576) v ∧ (0 ≤ v → l.length ≤ 1048576 ∧ ∀ s ∈ l, s.size ≤ 1048576) := by
  have ea : wrap64 (1048576 - (l.length : Int)) = 1048576 - (l.length : Int) := w64 (by omega) (by omega)
  by_cases c : 1048576 - (l.length : Int) < 0
  · refine ⟨-1, Ev.same (f := fun _ => some (-1)) ⟨0, fun k _ => ?_⟩ (Ev.now _), fun h => by omega⟩
    simp only [laws_szStringS.f, ea]
    rw [if_pos c]
  · obtain ⟨v, hv, _, hvs⟩ := szStringS_l0 l.length 0 l (1048576 - l.length) (by omega) (by omega) (by omega) hl hs
    refine ⟨v, Ev.same ⟨0, fun k _ => ?_⟩ hv, fun h => ⟨by omega, fun s h' => by have := hvs h s (by simpa using h'); omega⟩⟩
    simp only [laws_szStringS.f, ea]
    rw [if_neg c]
    rfl
theorem laws_szStringS.evA (l : List ByteArray) (a : Int) (h0 : 0 ≤ a) (h1 : a ≤ 1048576) (hl : l.length ≤ 9223372036854775807) (hs : ∀ s ∈ l, s.size ≤ 9223372036854775807) :
    ∃ v : Int, Ev (fun k => laws_szStringS.f k l a) v ∧ (0 ≤ v → l.length ≤ 1048576 ∧ ∀ s ∈ l, s.size ≤ 1048576) := by
  have ea : wrap64 (a - (l.length : Int)) = a - (l.length : Int) := w64 (by omega) (by omega)
  by_cases c : a - (l.length : Int) < 0
  · refine ⟨-1, Ev.same (f := fun _ => some (-1)) ⟨0, fun k _ => ?_⟩ (Ev.now _), fun h => by omega⟩
    simp only [laws_szStringS.f, ea]
    rw [if_pos c]
  · obtain ⟨v, hv, _, hvs⟩ := szStringS_l0 l.length 0 l (a - l.length) (by omega) (by omega) (by omega) hl hs
    refine ⟨v, Ev.same ⟨0, fun k _ => ?_⟩ hv, fun h => ⟨by omega, fun s h' => by have := hvs h s (by simpa using h'); omega⟩⟩
    simp only [laws_szStringS.f, ea]
    rw [if_neg c]
    rfl

/-! ### after laws_toStringS -/
theorem laws_toStringS.ev (l : List ByteArray) (hl : l.length ≤ 1048576) : Ev (fun k => laws_toStringS.f k l) l := by
  have h1 : 0 ≤ (l.length : Int) := by omega
  have h2 : (l.length : Int).toNat ≤ 17592186044416 := by omega
  unfold laws_toStringS.f
  simp only [if_pos h1, if_pos h2]
  have key : Ev (fun k => laws_toStringS.l0 k l (List.replicate (l.length : Int).toNat (⟨#[]⟩ : ByteArray)) 0) (l.map fun x => x) := to_ev laws_toStringS.l0 (fun x : ByteArray => x) (fun l acc i h hc hl => by
    refine ⟨0, fun k _ => ?_⟩
    have e : rdOf ByteArray.empty l (i : Int) = l[i] := by simp [rdOf, h]
    have ew : wrap64 ((i : Int) + 1) = ((i + 1 : Nat) : Int) := by rw [w64 (by omega) (by omega)]; omega
    rw [laws_toStringS.l0, if_pos (by omega), if_pos (by omega), if_pos (by omega), e, ew]
    rfl) (fun k l acc => by rw [laws_toStringS.l0, if_neg (by omega)]) l _ (by simp) (by omega)
  have e : (l.map fun x : ByteArray => x) = l := by simp
  rw [e] at key
  exact key

/-! ### after laws_szLamps -/
theorem szLamps_ev (l : List ByteArray) (hl : l.length ≤ 9223372036854775807) (hs : ∀ s ∈ l, s.size ≤ 9223372036854775807) :
    ∃ v : Int, Ev (fun k => laws_szLamps.f k l 1048576) v ∧ (0 ≤ v → l.length ≤ 1048576 ∧ ∀ s ∈ l, s.size ≤ 1048576) := by
  obtain ⟨v, ⟨K, hK⟩, h⟩ := laws_szStringS.ev l hl hs
  by_cases c : v < 0
  · exact ⟨-1, ⟨K, fun k hk => by simp only [laws_szLamps.f, hK k hk, Option.bind_some]; rw [if_pos c]⟩, fun h => by omega⟩
  · exact ⟨v, ⟨K, fun k hk => by simp only [laws_szLamps.f, hK k hk, Option.bind_some]; rw [if_neg c]⟩, h⟩

/-! ### after laws_toLamps -/
theorem toLamps_ev (l : List ByteArray) (hl : l.length ≤ 1048576) : Ev (fun k => laws_toLamps.f k l) l := by
  obtain ⟨K, hK⟩ := laws_toStringS.ev l hl
  exact ⟨K, fun k hk => by simp [laws_toLamps.f, hK k hk]⟩

/-! ### after laws_eqLamps -/
theorem eqLamps_ev (l : List ByteArray) (hl : l.length ≤ 9223372036854775807) : Ev (fun k => laws_eqLamps.f k l l) true := by
  obtain ⟨K, hK⟩ := laws_eqStringS.ev l hl
  exact ⟨K, fun k hk => by simp [laws_eqLamps.f, hK k hk]⟩

/-! ### after laws_markLamps -/
theorem markLamps_ev (l : List ByteArray) (hl : l.length ≤ 1048577) : Ev (fun k => laws_markLamps.f k l 1) (1 + 1 * l.length, marks markT 1 l.length 1) := by
  obtain ⟨K, hK⟩ := laws_markStringS.ev l 1 (by omega) (by omega)
  exact ⟨K, fun k hk => by simp [laws_markLamps.f, hK k hk]⟩

/-! ### after laws_heldLamps -/
theorem heldLamps_ev (n : Nat) (hl : n ≤ 1048577) : Ev (fun k => laws_heldLamps.f k (marks markT 1 n 1) 1) (1 + 1 * n) := by
  obtain ⟨K, hK⟩ := laws_heldStringS.ev n 1 (by omega) (by omega)
  exact ⟨K, fun k hk => by
    simp only [laws_heldLamps.f, hK k hk, Option.bind_some]
    rw [if_neg (by omega)]⟩

/-! ### after impl_OtherLamps -/
def otherR (l : List ByteArray) : List ByteArray × Bool := if areLampsB l = true then (l.map otherS, true) else ([], false)
theorem otherR_len (l : List ByteArray) : (otherR l).1.length ≤ l.length := by
  unfold otherR; split <;> simp
theorem implOther_eq (l : List ByteArray) : impl_OtherLamps.f l = some (otherR l) := by
  unfold impl_OtherLamps.f otherR; split <;> rfl
theorem specOther_eq (l : List ByteArray) : spec_OtherLamps.f l = some (otherR l) := by
  unfold spec_OtherLamps.f otherR; split <;> rfl

end Go.Proofs.YtepaleeepbjkbaaDoor.POtherLamps
