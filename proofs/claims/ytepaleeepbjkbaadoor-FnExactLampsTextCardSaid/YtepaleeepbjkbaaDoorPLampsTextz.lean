/- What the printed functions answer, function by function: plain statements, without memory. (wip/after) -/
import Derived.Test.YtepaleeepbjkbaaDoorPLampsTextx
import Derived.Test.YtepaleeepbjkbaaDoorEv
import Derived.Test.YtepaleeepbjkbaaDoorState
namespace Go.Proofs.YtepaleeepbjkbaaDoor.PLampsText
open Go.RowKit Go.Proofs.YtepaleeepbjkbaaDoorW.PrintWords Go.Proofs.YtepaleeepbjkbaaDoorW.PrintLast Go.Proofs.YtepaleeepbjkbaaDoorW.PrintMore
set_option linter.unusedVariables false
set_option linter.unusedSimpArgs false
/-! ### after laws_eqStringS -/
theorem laws_eqStringS.ev (l : List ByteArray) (hl : l.length ≤ 9223372036854775807) : Ev (fun k => laws_eqStringS.f k l l) true := by
  unfold laws_eqStringS.f
  refine Ev.congr (f := fun k => laws_eqStringS.l0 k l l 0) (fun k => if_pos rfl) ?_
  refine eq_ev laws_eqStringS.l0 ?_ ?_ l hl
  · intro l i h hl
    refine ⟨0, fun k _ => ?_⟩
    have ew : wrap64 ((i : Int) + 1) = ((i + 1 : Nat) : Int) := by rw [w64 (by omega) (by omega)]; omega
    rw [laws_eqStringS.l0, if_pos (by omega), if_pos (by omega), if_pos (by omega)]
    simp [ew]
  · intro k l
    rw [laws_eqStringS.l0, if_neg (by omega)]

/-! ### after laws_szStringS -/
theorem szStringS_l0 : ∀ (n i : Nat) (l : List ByteArray) (a : Int), i + n = l.length → 0 ≤ a → a ≤ 1048576 → l.length ≤ 9223372036854775807 → (∀ s ∈ l, s.size ≤ 9223372036854775807) →
    ∃ v : Int, Ev (fun k => laws_szStringS.l0 k l a (i : Int)) v ∧ v ≤ a ∧ (0 ≤ v → ∀ s ∈ l.drop i, (s.size : Int) ≤ 1048576) := by
  intro n
  induction n with
  | zero =>
    intro i l a hi h0 h1 hl hs
    refine ⟨a, Ev.last fun k => ?_, by omega, fun _ s hs' => ?_⟩
    · rw [laws_szStringS.l0, if_neg (by omega)]
    · rw [List.drop_of_length_le (by omega)] at hs'; cases hs'
  | succ n ih =>
    intro i l a hi h0 h1 hl hs
    have hlt : i < l.length := by omega
    have hsz := hs l[i] (List.getElem_mem hlt)
    have er : rdOf ByteArray.empty l (i : Int) = l[i] := by simp [rdOf, hlt]
    have ew : wrap64 ((i : Int) + 1) = ((i + 1 : Nat) : Int) := by rw [w64 (by omega) (by omega)]; omega
    have ea : wrap64 (a - l[i].size) = a - l[i].size := w64 (by omega) (by omega)
    by_cases c : a - (l[i].size : Int) < 0
    · refine ⟨-1, Ev.next (f := fun _ => some (-1)) ⟨0, fun k _ => ?_⟩ (Ev.now _), by omega, fun h => by omega⟩
      rw [laws_szStringS.l0, if_pos (by omega), if_pos (by omega)]
      simp only [er, ea]
      rw [if_pos c]
    · obtain ⟨v, hv, hva, hvs⟩ := ih (i + 1) l (a - l[i].size) (by omega) (by omega) (by omega) hl hs
      refine ⟨v, Ev.next ⟨0, fun k _ => ?_⟩ hv, by omega, fun h s hs' => ?_⟩
      · rw [laws_szStringS.l0, if_pos (by omega), if_pos (by omega)]
        simp only [er, ea]
        rw [if_neg c, ew]
      · rw [List.drop_eq_getElem_cons hlt, List.mem_cons] at hs'
        rcases hs' with rfl | h'
        · omega
        · exact hvs h s h'
theorem laws_szStringS.ev (l : List ByteArray) (hl : l.length ≤ 9223372036854775807) (hs : ∀ s ∈ l, s.size ≤ 9223372036854775807) :
    ∃ v : Int, Ev (fun k => laws_szStringS.f k l 1048576) v ∧ (0 ≤ v → l.length ≤ 1048576 ∧ ∀ s ∈ l, s.size ≤ 1048576) := by
  have ea : wrap64 (1048576 - (l.length : Int)) = 1048576 - (l.length : Int) := w64 (by omega) (by omega)
  by_cases c : 1048576 - (l.length : Int) < 0
  · refine ⟨-1, Ev.same (f := fun _ => some (-1)) ⟨0, fun k _ => ?_⟩ (Ev.now _), fun h => by omega⟩
    simp only [laws_szStringS.f, ea]
    rw [if_pos c]
  · obtain ⟨v, hv, _, hvs⟩ := szStringS_l0 l.length 0 l (1048576 - l.length) (by omega) (by omega) (by omega) hl hs
    refine ⟨v, Ev.same ⟨0, fun k _ => ?_⟩ hv, fun h => ⟨by omega, fun s h' => by have := hvs h s (by simpa using h'); omega⟩⟩
    simp only [laws_szStringS.f, ea]
    rw [if_neg c]
    rfl
theorem laws_szStringS.evA (l : List ByteArray) (a : Int) (h0 : 0 ≤ a) (h1 : a ≤ 1048576) (hl : l.length ≤ 9223372036854775807) (hs : ∀ s ∈ l, s.size ≤ 9223372036854775807) :
    ∃ v : Int, Ev (fun k => laws_szStringS.f k l a) v ∧ (0 ≤ v → l.length ≤ 1048576 ∧ ∀ s ∈ l, s.size ≤ 1048576) := by
  have ea : wrap64 (a - (l.length : Int)) = a - (l.length : Int) := w64 (by omega) (by omega)
  by_cases c : a - (l.length : Int) < 0
  · refine ⟨-1, Ev.same (f := fun _ => some (-1)) ⟨0, fun k _ => ?_⟩ (Ev.now _), fun h => by omega⟩
    simp only [laws_szStringS.f, ea]
    rw [if_pos c]
  · obtain ⟨v, hv, _, hvs⟩ := szStringS_l0 l.length 0 l (a - l.length) (by omega) (by omega) (by omega) hl hs
    refine ⟨v, Ev.same ⟨0, fun k _ => ?_⟩ hv, fun h => ⟨by omega, fun s h' => by have := hvs h s (by simpa using h'); omega⟩⟩
    simp only [laws_szStringS.f, ea]
    rw [if_neg c]
    rfl

/-! ### after laws_toStringS -/
theorem laws_toStringS.ev (l : List ByteArray) (hl : l.length ≤ 1048576) : Ev (fun k => laws_toStringS.f k l) l := by
  have h1 : 0 ≤ (l.length : Int) := by omega
  have h2 : (l.length : Int).toNat ≤ 17592186044416 := by omega
  unfold laws_toStringS.f
  simp only [if_pos h1, if_pos h2]
  have key : Ev (fun k => laws_toStringS.l0 k l (List.replicate (l.length : Int).toNat (⟨#[]⟩ : ByteArray)) 0) (l.map fun x => x) := to_ev laws_toStringS.l0 (fun x : ByteArray => x) (fun l acc i h hc hl => by
    refine ⟨0, fun k _ => ?_⟩
    have e : rdOf ByteArray.empty l (i : Int) = l[i] := by simp [rdOf, h]
    have ew : wrap64 ((i : Int) + 1) = ((i + 1 : Nat) : Int) := by rw [w64 (by omega) (by omega)]; omega
    rw [laws_toStringS.l0, if_pos (by omega), if_pos (by omega), if_pos (by omega), e, ew]
    rfl) (fun k l acc => by rw [laws_toStringS.l0, if_neg (by omega)]) l _ (by simp) (by omega)
  have e : (l.map fun x : ByteArray => x) = l := by simp
  rw [e] at key
  exact key

/-! ### after laws_szLamps -/
theorem szLamps_ev (l : List ByteArray) (hl : l.length ≤ 9223372036854775807) (hs : ∀ s ∈ l, s.size ≤ 9223372036854775807) :
    ∃ v : Int, Ev (fun k => laws_szLamps.f k l 1048576) v ∧ (0 ≤ v → l.length ≤ 1048576 ∧ ∀ s ∈ l, s.size ≤ 1048576) := by
  obtain ⟨v, ⟨K, hK⟩, h⟩ := laws_szStringS.ev l hl hs
  by_cases c : v < 0
  · exact ⟨-1, ⟨K, fun k hk => by simp only [laws_szLamps.f, hK k hk, Option.bind_some]; rw [if_pos c]⟩, fun h => by omega⟩
  · exact ⟨v, ⟨K, fun k hk => by simp only [laws_szLamps.f, hK k hk, Option.bind_some]; rw [if_neg c]⟩, h⟩

/-! ### after laws_toLamps -/
theorem toLamps_ev (l : List ByteArray) (hl : l.length ≤ 1048576) : Ev (fun k => laws_toLamps.f k l) l := by
  obtain ⟨K, hK⟩ := laws_toStringS.ev l hl
  exact ⟨K, fun k hk => by simp [laws_toLamps.f, hK k hk]⟩

/-! ### after laws_eqLamps -/
theorem eqLamps_ev (l : List ByteArray) (hl : l.length ≤ 9223372036854775807) : Ev (fun k => laws_eqLamps.f k l l) true := by
  obtain ⟨K, hK⟩ := laws_eqStringS.ev l hl
  exact ⟨K, fun k hk => by simp [laws_eqLamps.f, hK k hk]⟩

/-! ### after spec_laText -/
theorem joinTail_ne (sep : List UInt8) (a : List UInt8) (r : List (List UInt8)) : Lib.join (a :: r) sep = a ++ (r.map (sep ++ ·)).flatten := by
  unfold Lib.join
  induction r generalizing a with
  | nil => simp [List.intercalate]
  | cons b r ih =>
    have e : (sep.intercalate (a :: b :: r)) = a ++ (sep ++ sep.intercalate (b :: r)) := by simp [List.intercalate]
    rw [e, ih b]
    simp
theorem laText_l0 (l : List ByteArray) (hl : l.length ≤ 10) (hall : ∀ x ∈ l, x.size ≤ 10) : ∀ (m i : Nat) (acc : ByteArray), i + m = l.length → acc.size ≤ 11 * i → 1 ≤ i →
    Ev (fun k => spec_laText.l0 k acc l (l.length : Int) (i : Int)) (acc ++ ⟨(((l.drop i).map fun x => [47] ++ x.data.toList).flatten).toArray⟩) := by
  intro m
  induction m with
  | zero =>
    intro i acc hi ha h1
    rw [List.drop_of_length_le (by omega)]
    refine Ev.last fun k => ?_
    rw [spec_laText.l0, if_neg (by omega)]
    congr 1
    apply ByteArray.ext
    simp
  | succ m ih =>
    intro i acc hi ha h1
    have hil : i < l.length := by omega
    have er : rdOf ByteArray.empty l (i : Int) = l[i] := by simp [rdOf, hil]
    have hz := hall l[i] (List.getElem_mem hil)
    have ew : wrap64 ((i : Int) + 1) = ((i + 1 : Nat) : Int) := by rw [w64 (by omega) (by omega)]; omega
    have es : (acc ++ (⟨#[47]⟩ : ByteArray)).size = acc.size + 1 := by rw [ByteArray.size_append]; rfl
    have ih := ih (i + 1) ((acc ++ (⟨#[47]⟩ : ByteArray)) ++ l[i]) (by omega) (by rw [ByteArray.size_append, es]; omega) (by omega)
    have e : acc ++ ⟨(((l.drop i).map fun x => [47] ++ x.data.toList).flatten).toArray⟩ = ((acc ++ (⟨#[47]⟩ : ByteArray)) ++ l[i]) ++ ⟨(((l.drop (i + 1)).map fun x => [47] ++ x.data.toList).flatten).toArray⟩ := by
      rw [List.drop_eq_getElem_cons hil, List.map_cons, List.flatten_cons]
      apply ByteArray.ext
      apply Array.toList_inj.1
      simp
    rw [e]
    refine Ev.next ⟨0, fun k _ => ?_⟩ ih
    rw [spec_laText.l0, if_pos (by omega), if_pos (by omega), if_pos (by omega), if_pos (by omega), if_pos (by omega), er, if_pos (by rw [es]; omega), ew]
theorem laText_ev (l : List ByteArray) (h : areLampsB l = true) : Ev (fun k => spec_laText.f k l) ⟨(Lib.join (l.map (·.data.toList)) [47]).toArray⟩ := by
  obtain ⟨h1, h10, hall⟩ := lamps_facts h
  obtain ⟨a, r, rfl⟩ := List.exists_cons_of_length_pos (show 0 < l.length by omega)
  have hz := (hall a (by simp)).1
  have er : rdOf ByteArray.empty (a :: r) (0 : Int) = a := rfl
  have e1 : wrap64 ((0 : Int) + 1) = ((1 : Nat) : Int) := by decide +kernel
  have hin := laText_l0 (a :: r) (by simpa using h10) (fun x hx => by have := (hall x hx).1; simp at h10 this; omega) r.length 1 a (by simp; omega) (by simp at h10 hz; omega) (Nat.le_refl _)
  refine Ev.next (f := fun k => spec_laText.l0 k a (a :: r) ((a :: r).length : Int) ((1 : Nat) : Int)) ⟨0, fun k _ => ?_⟩ ?_
  · show spec_laText.l0 (k + 1) (⟨#[]⟩ : ByteArray) (a :: r) ((a :: r).length : Int) 0 = _
    have e0 : (⟨#[]⟩ : ByteArray) ++ a = a := by apply ByteArray.ext; simp
    rw [spec_laText.l0, if_pos (by first | (simp; done) | (simp; omega)), if_pos (by omega), if_pos (by first | (simp; done) | (simp; omega)), if_neg (by omega), er, if_pos (by show 0 + a.size ≤ _; simp at h10 hz; omega), e0, e1]
  · have e2 : (⟨(Lib.join ((a :: r).map (·.data.toList)) [47]).toArray⟩ : ByteArray) = a ++ ⟨((((a :: r).drop 1).map fun x => [47] ++ x.data.toList).flatten).toArray⟩ := by
      rw [List.map_cons, joinTail_ne]
      apply ByteArray.ext
      simp [List.map_map, Function.comp_def]
    rw [e2]
    exact hin

/-! ### after impl_LampsText -/
theorem specText_ev (l : List ByteArray) : Ev (fun k => spec_LampsText.f k l) (if areLampsB l = true then (joinS l, true) else (⟨#[]⟩, false)) := by
  cases h : areLampsB l
  · exact ⟨0, fun k hk => by simp [spec_LampsText.f, spec_laGood.f, h]⟩
  · obtain ⟨K, hK⟩ := laText_ev l h
    exact ⟨K, fun k hk => by simp [spec_LampsText.f, spec_laGood.f, h, hK k hk, joinS]⟩
theorem implText_eq (l : List ByteArray) : impl_LampsText.f l = some (if areLampsB l = true then (joinS l, true) else (⟨#[]⟩, false)) := by
  unfold impl_LampsText.f
  split <;> rfl

end Go.Proofs.YtepaleeepbjkbaaDoor.PLampsText
