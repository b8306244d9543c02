/- What the printed functions answer, function by function: plain statements, without memory. (wip/after) -/
import Derived.Test.YtpjdlobkeafacaaDoorPCycleOfLampsx
import Derived.Test.YtpjdlobkeafacaaDoorEv
import Derived.Test.YtpjdlobkeafacaaDoorState
namespace Go.Proofs.YtpjdlobkeafacaaDoor.PCycleOfLamps
open Go.RowKit Go.Proofs.YtpjdlobkeafacaaDoorW.PrintWords Go.Proofs.YtpjdlobkeafacaaDoorW.PrintLast Go.Proofs.YtpjdlobkeafacaaDoorW.PrintMore
set_option linter.unusedVariables false
set_option linter.unusedSimpArgs false
/-! ### after laws_eqStringS -/
theorem laws_eqStringS.ev (l : List ByteArray) (hl : l.length ≤ 9223372036854775807) : Ev (fun k => laws_eqStringS.f k l l) true := by
  unfold laws_eqStringS.f
  refine Ev.congr (f := fun k => laws_eqStringS.l0 k l l 0) (fun k => if_pos rfl) ?_
  refine eq_ev laws_eqStringS.l0 ?_ ?_ l hl
  · intro l i h hl
    refine ⟨0, fun k _ => ?_⟩
    have ew : wrap64 ((i : Int) + 1) = ((i + 1 : Nat) : Int) := by rw [w64 (by omega) (by omega)]; omega
    rw [laws_eqStringS.l0, if_pos (by omega), if_pos (by omega), if_pos (by omega)]
    simp [ew]
  · intro k l
    rw [laws_eqStringS.l0, if_neg (by omega)]

/-! ### after laws_markText -/
theorem strOfNums_one (z : Int) : (strOfNums [z]).size = 1 := by simp [strOfNums]; rfl
theorem markText_l0 : ∀ (d n : Nat) (x : ByteArray), n < 10 ^ d → n ≤ 4611686018427387904 → x.size + d ≤ 1000 → ∃ r, laws_markText.l0 (d + 1) n x = some r := by
  intro d
  induction d with
  | zero =>
    intro n x hn hb hx
    have : n = 0 := by simpa using hn
    subst this
    rw [laws_markText.l0, if_neg (by omega), if_pos (by omega)]
    exact ⟨_, rfl⟩
  | succ d ih =>
    intro n x hn hb hx
    by_cases h0 : n = 0
    · subst h0
      rw [laws_markText.l0, if_neg (by omega), if_pos (by omega)]
      exact ⟨_, rfl⟩
    · have e : wrap64 (Int.tdiv (n : Int) 10) = ((n / 10 : Nat) : Int) := by
        have : Int.tdiv (n : Int) 10 = ((n / 10 : Nat) : Int) := by
          rw [Int.tdiv_eq_ediv_of_nonneg (by omega)]; rfl
        rw [this, w64 (by omega) (by omega)]
      rw [laws_markText.l0, if_pos (by omega)]
      simp only [Option.bind_some, strOfNums_one]
      rw [if_pos (by omega), e]
      refine ih (n / 10) _ ?_ (by omega) ?_
      · rw [Nat.pow_succ] at hn; omega
      · rw [ByteArray.size_append, strOfNums_one]; omega
/-- The text of a mark. -/
def markT (a : Int) : ByteArray := (laws_markText.f 40 a).getD ⟨#[]⟩
theorem markT_ev (a : Int) (h0 : 0 ≤ a) (hB : a ≤ 4611686018427387904) : Ev (fun k => laws_markText.f k a) (markT a) := by
  have h : ∃ r, laws_markText.f 40 a = some r := by
    unfold laws_markText.f
    by_cases h : a ≤ 0
    · rw [if_pos h]; exact ⟨_, rfl⟩
    · rw [if_neg h]
      obtain ⟨n, rfl⟩ : ∃ n : Nat, a = n := ⟨a.toNat, by omega⟩
      exact markText_l0 39 n _ (Nat.lt_of_le_of_lt (by omega : n ≤ 4611686018427387904) (by decide)) (by omega) (by decide)
  obtain ⟨r, hr⟩ := h
  unfold markT
  rw [hr]
  exact Ev.of (laws_markText.mono a) hr

/-! ### after laws_markStringS -/
theorem laws_markStringS.ev (l : List ByteArray) (a : Int) (h0 : 0 ≤ a) (hB : a + 1 * l.length ≤ 4611686018427387904) : Ev (fun k => laws_markStringS.f k l a) (a + 1 * l.length, marks markT 1 l.length a) := by
  unfold laws_markStringS.f
  refine mark_ev laws_markStringS.l0 markT 1 4611686018427387904 ?_ ?_ l a h0 hB (by omega)
  · intro l a i h h0 hB hl
    obtain ⟨K, hK⟩ := markT_ev a h0 (by omega)
    refine ⟨K, fun k hk => ?_⟩
    have ew : wrap64 ((i : Int) + 1) = ((i + 1 : Nat) : Int) := by rw [w64 (by omega) (by omega)]; omega
    have e1 : wrap64 (a + 1) = a + 1 := w64 (by omega) (by omega)
    have := hK k hk
    simp only at this
    rw [laws_markStringS.l0, if_pos (by omega), this, Option.bind_some, if_pos (by omega), ew, e1, Int.toNat_natCast]
    rfl
  · intro k l a
    rw [laws_markStringS.l0, if_neg (by omega)]

/-! ### after laws_heldStringS -/
theorem laws_heldStringS.ev (n : Nat) (a : Int) (h0 : 0 ≤ a) (hB : a + 1 * n ≤ 4611686018427387904) : Ev (fun k => laws_heldStringS.f k (marks markT 1 n a) a) (a + 1 * n) := by
  unfold laws_heldStringS.f
  refine held_ev laws_heldStringS.l0 markT 1 4611686018427387904 ?_ ?_ n a h0 hB (by omega)
  · intro l a i h h0 hB hl hv
    obtain ⟨K, hK⟩ := markT_ev a h0 (by omega)
    refine ⟨K, fun k hk => ?_⟩
    have ew : wrap64 ((i : Int) + 1) = ((i + 1 : Nat) : Int) := by rw [w64 (by omega) (by omega)]; omega
    have e1 : wrap64 (a + 1) = a + 1 := w64 (by omega) (by omega)
    have := hK k hk
    simp only at this
    have er : rdOf ByteArray.empty l (i : Int) = markT a := by rw [← hv]; simp [rdOf, h]
    rw [laws_heldStringS.l0, if_pos (by omega), if_pos (by omega), this, Option.bind_some, er, if_pos rfl, ew, e1]
    rfl
  · intro k l a
    rw [laws_heldStringS.l0, if_neg (by omega)]

/-! ### after laws_szStringS -/
theorem szStringS_l0 : ∀ (n i : Nat) (l : List ByteArray) (a : Int), i + n = l.length → 0 ≤ a → a ≤ 1048576 → l.length ≤ 9223372036854775807 → (∀ s ∈ l, s.size ≤ 9223372036854775807) →
    ∃ v : Int, Ev (fun k => laws_szStringS.l0 k l a (i : Int)) v ∧ v ≤ a ∧ (0 ≤ v → ∀ s ∈ l.drop i, (s.size : Int) ≤ 1048576) := by
  intro n
  induction n with
  | zero =>
    intro i l a hi h0 h1 hl hs
    refine ⟨a, Ev.last fun k => ?_, by omega, fun _ s hs' => ?_⟩
    · rw [laws_szStringS.l0, if_neg (by omega)]
    · rw [List.drop_of_length_le (by omega)] at hs'; cases hs'
  | succ n ih =>
    intro i l a hi h0 h1 hl hs
    have hlt : i < l.length := by omega
    have hsz := hs l[i] (List.getElem_mem hlt)
    have er : rdOf ByteArray.empty l (i : Int) = l[i] := by simp [rdOf, hlt]
    have ew : wrap64 ((i : Int) + 1) = ((i + 1 : Nat) : Int) := by rw [w64 (by omega) (by omega)]; omega
    have ea : wrap64 (a - l[i].size) = a - l[i].size := w64 (by omega) (by omega)
    by_cases c : a - (l[i].size : Int) < 0
    · refine ⟨-1, Ev.next (f := fun _ => some (-1)) ⟨0, fun k _ => ?_⟩ (Ev.now _), by omega, fun h => by omega⟩
      rw [laws_szStringS.l0, if_pos (by omega), if_pos (by omega)]
      simp only [er, ea]
      rw [if_pos c]
    · obtain ⟨v, hv, hva, hvs⟩ := ih (i + 1) l (a - l[i].size) (by omega) (by omega) (by omega) hl hs
      refine ⟨v, Ev.next ⟨0, fun k _ => ?_⟩ hv, by omega, fun h s hs' => ?_⟩
      · rw [laws_szStringS.l0, if_pos (by omega), if_pos (by omega)]
        simp only [er, ea]
        rw [if_neg c, ew]
      · rw [List.drop_eq_getElem_cons hlt, List.mem_cons] at hs'
        rcases hs' with rfl | h'
        · omega
        · exact hvs h s h'
theorem laws_szStringS.ev (l : List ByteArray) (hl : l.length ≤ 9223372036854775807) (hs : ∀ s ∈ l, s.size ≤ 9223372036854775807) :
    ∃ v : Int, Ev (fun k => laws_szStringS.f k l 1048576) v ∧ (0 ≤ v → l.length ≤ 1048576 ∧ ∀ s ∈ l, s.size ≤ 1048576) := by
  have ea : wrap64 (1048576 - (l.length : Int)) = 1048576 - (l.length : Int) := w64 (by omega) (by omega)
  by_cases c : 1048576 - (l.length : Int) < 0
  · refine ⟨-1, Ev.same (f := fun _ => some (-1)) ⟨0, fun k _ => ?_⟩ (Ev.now _), fun h => by omega⟩
    simp only [laws_szStringS.f, ea]
    rw [if_pos c]
  · obtain ⟨v, hv, _, hvs⟩ := szStringS_l0 l.length 0 l (1048576 - l.length) (by omega) (by omega) (by omega) hl hs
    refine ⟨v, Ev.same ⟨0, fun k _ => ?_⟩ hv, fun h => ⟨by omega, fun s h' => by have := hvs h s (by simpa using h'); omega⟩⟩
    simp only [laws_szStringS.f, ea]
    rw [if_neg c]
    rfl
theorem laws_szStringS.evA (l : List ByteArray) (a : Int) (h0 : 0 ≤ a) (h1 : a ≤ 1048576) (hl : l.length ≤ 9223372036854775807) (hs : ∀ s ∈ l, s.size ≤ 9223372036854775807) :
    ∃ v : Int, Ev (fun k => laws_szStringS.f k l a) v ∧ (0 ≤ v → l.length ≤ 1048576 ∧ ∀ s ∈ l, s.size ≤ 1048576) := by
  have ea : wrap64 (a - (l.length : Int)) = a - (l.length : Int) := w64 (by omega) (by omega)
  by_cases c : a - (l.length : Int) < 0
  · refine ⟨-1, Ev.same (f := fun _ => some (-1)) ⟨0, fun k _ => ?_⟩ (Ev.now _), fun h => by omega⟩
    simp only [laws_szStringS.f, ea]
    rw [if_pos c]
  · obtain ⟨v, hv, _, hvs⟩ := szStringS_l0 l.length 0 l (a - l.length) (by omega) (by omega) (by omega) hl hs
    refine ⟨v, Ev.same ⟨0, fun k _ => ?_⟩ hv, fun h => ⟨by omega, fun s h' => by have := hvs h s (by simpa using h'); omega⟩⟩
    simp only [laws_szStringS.f, ea]
    rw [if_neg c]
    rfl

/-! ### after laws_toStringS -/
theorem laws_toStringS.ev (l : List ByteArray) (hl : l.length ≤ 1048576) : Ev (fun k => laws_toStringS.f k l) l := by
  have h1 : 0 ≤ (l.length : Int) := by omega
  have h2 : (l.length : Int).toNat ≤ 17592186044416 := by omega
  unfold laws_toStringS.f
  simp only [if_pos h1, if_pos h2]
  have key : Ev (fun k => laws_toStringS.l0 k l (List.replicate (l.length : Int).toNat (⟨#[]⟩ : ByteArray)) 0) (l.map fun x => x) := to_ev laws_toStringS.l0 (fun x : ByteArray => x) (fun l acc i h hc hl => by
    refine ⟨0, fun k _ => ?_⟩
    have e : rdOf ByteArray.empty l (i : Int) = l[i] := by simp [rdOf, h]
    have ew : wrap64 ((i : Int) + 1) = ((i + 1 : Nat) : Int) := by rw [w64 (by omega) (by omega)]; omega
    rw [laws_toStringS.l0, if_pos (by omega), if_pos (by omega), if_pos (by omega), e, ew]
    rfl) (fun k l acc => by rw [laws_toStringS.l0, if_neg (by omega)]) l _ (by simp) (by omega)
  have e : (l.map fun x : ByteArray => x) = l := by simp
  rw [e] at key
  exact key

/-! ### after laws_szLamps -/
theorem szLamps_ev (l : List ByteArray) (hl : l.length ≤ 9223372036854775807) (hs : ∀ s ∈ l, s.size ≤ 9223372036854775807) :
    ∃ v : Int, Ev (fun k => laws_szLamps.f k l 1048576) v ∧ (0 ≤ v → l.length ≤ 1048576 ∧ ∀ s ∈ l, s.size ≤ 1048576) := by
  obtain ⟨v, ⟨K, hK⟩, h⟩ := laws_szStringS.ev l hl hs
  by_cases c : v < 0
  · exact ⟨-1, ⟨K, fun k hk => by simp only [laws_szLamps.f, hK k hk, Option.bind_some]; rw [if_pos c]⟩, fun h => by omega⟩
  · exact ⟨v, ⟨K, fun k hk => by simp only [laws_szLamps.f, hK k hk, Option.bind_some]; rw [if_neg c]⟩, h⟩

/-! ### after laws_toLamps -/
theorem toLamps_ev (l : List ByteArray) (hl : l.length ≤ 1048576) : Ev (fun k => laws_toLamps.f k l) l := by
  obtain ⟨K, hK⟩ := laws_toStringS.ev l hl
  exact ⟨K, fun k hk => by simp [laws_toLamps.f, hK k hk]⟩

/-! ### after laws_eqLamps -/
theorem eqLamps_ev (l : List ByteArray) (hl : l.length ≤ 9223372036854775807) : Ev (fun k => laws_eqLamps.f k l l) true := by
  obtain ⟨K, hK⟩ := laws_eqStringS.ev l hl
  exact ⟨K, fun k hk => by simp [laws_eqLamps.f, hK k hk]⟩

/-! ### after laws_markLamps -/
theorem markLamps_ev (l : List ByteArray) (hl : l.length ≤ 1048577) : Ev (fun k => laws_markLamps.f k l 1) (1 + 1 * l.length, marks markT 1 l.length 1) := by
  obtain ⟨K, hK⟩ := laws_markStringS.ev l 1 (by omega) (by omega)
  exact ⟨K, fun k hk => by simp [laws_markLamps.f, hK k hk]⟩

/-! ### after spec_laAsked -/
theorem laAsked_eq (l : List ByteArray) (s : ByteArray) : spec_laAsked.f l s = some (litR l s) := by
  simp only [spec_laAsked.f, spec_laGood.f, spec_laState.f, Option.bind_some, litR]
  cases areLampsB l <;> simp

/-! ### after spec_laTick -/
theorem laTick_eq {l : List ByteArray} {s : ByteArray} (h : litR l s = true) : spec_laTick.f l s = some (tickS l s) := by
  obtain ⟨_, h1, _, h2, h3, h4⟩ := lit_facts h
  unfold spec_laTick.f
  rw [if_pos ⟨h1, by omega, h3, h4⟩]
  rfl

/-! ### after impl_Lamps_lit -/
theorem lit_eq (l : List ByteArray) (s : ByteArray) : impl_Lamps_lit.f l s = some (litR l s) := by
  simp only [impl_Lamps_lit.f, impl_AreLamps.f, Option.bind_some, litR]
  cases h : areLampsB l
  · simp
  · obtain ⟨_, hl, _⟩ := lamps_facts h
    rw [litB_eq]
    by_cases hs : s.size = l.length
    · have ht : strings_Trim.f s (⟨#[48, 49]⟩ : ByteArray) = some ⟨(Lib.trimS s.data.toList [48, 49]).toArray⟩ := by
        unfold strings_Trim.f
        rw [if_pos ⟨by omega, by decide, by decide⟩]
      have hs' : (s.size : Int) = l.length := by omega
      simp only [if_true, if_pos hs', ht, Option.bind_some, trimS_beq, isBit_contains, hs, beq_self_eq_true, Bool.true_and]
    · have hs' : ¬ (s.size : Int) = l.length := by omega
      simp [hs, hs']

/-! ### after impl_Lamps_tick -/
theorem tick_eq {l : List ByteArray} {s : ByteArray} (h : litR l s = true) : impl_Lamps_tick.f l s = some (tickS l s) := by
  obtain ⟨_, h1, _, h2, h3, h4⟩ := lit_facts h
  unfold impl_Lamps_tick.f
  rw [if_pos ⟨h1, by omega, h3⟩]
  rfl

/-! ### after spec_laPath -/
theorem pigeon : ∀ (N : Nat) (L : List Nat), L.Nodup → (∀ x ∈ L, x < N) → L.length ≤ N := by
  intro N
  induction N with
  | zero =>
    intro L _ h
    cases L with
    | nil => simp
    | cons a r => exact absurd (h a (by simp)) (by omega)
  | succ N ih =>
    intro L hn h
    have h1 := ih (L.erase N) (hn.erase N) (fun x hx => by
      have h2 := h x (List.mem_of_mem_erase hx)
      have h3 : x ≠ N := fun e => by subst e; exact absurd hx (List.Nodup.not_mem_erase hn)
      omega)
    by_cases hm : N ∈ L
    · rw [List.length_erase_of_mem hm] at h1
      omega
    · rw [List.erase_of_not_mem hm] at h1
      omega
theorem numL_inj : ∀ (n : Nat) (a b : List UInt8), a.length = n → b.length = n → a.all isBit = true → b.all isBit = true → numL a = numL b → a = b := by
  intro n
  induction n with
  | zero => intro a b ha hb _ _ _; rw [List.length_eq_zero_iff.1 ha, List.length_eq_zero_iff.1 hb]
  | succ n ih =>
    intro a b ha hb h1 h2 h
    rcases List.eq_nil_or_concat a with rfl | ⟨a', x, rfl⟩
    · cases ha
    rcases List.eq_nil_or_concat b with rfl | ⟨b', y, rfl⟩
    · cases hb
    simp only [List.concat_eq_append] at *
    rw [numL_snoc, numL_snoc] at h
    simp only [List.all_append, List.all_cons, List.all_nil, Bool.and_true, Bool.and_eq_true] at h1 h2
    have hx : x = 48 ∨ x = 49 := by simpa [isBit] using h1.2
    have hy : y = 48 ∨ y = 49 := by simpa [isBit] using h2.2
    have hl1 : a'.length = n := by simpa using ha
    have hl2 : b'.length = n := by simpa using hb
    rcases hx with rfl | rfl <;> rcases hy with rfl | rfl
    · rw [ih a' b' hl1 hl2 h1.1 h2.1 (by simp at h; omega)]
    · simp at h; omega
    · simp at h; omega
    · rw [ih a' b' hl1 hl2 h1.1 h2.1 (by simp at h; omega)]
theorem numS_inj {l : List ByteArray} {a b : ByteArray} (ha : litR l a = true) (hb : litR l b = true) (h : numL a.data.toList = numL b.data.toList) : a = b := by
  obtain ⟨_, h1, _, _, _, h2⟩ := lit_facts ha
  obtain ⟨_, h3, _, _, _, h4⟩ := lit_facts hb
  have e1 := Lib.size_eq a
  have e2 := Lib.size_eq b
  apply ByteArray.ext
  exact Array.toList_inj.1 (numL_inj a.size a.data.toList b.data.toList (by omega) (by omega) h2 h4 h)
theorem lit_num {l : List ByteArray} {a : ByteArray} (ha : litR l a = true) : numL a.data.toList < 2 ^ l.length := by
  obtain ⟨_, h1, _, _, _, _⟩ := lit_facts ha
  rw [h1]
  exact numL_lt _ _ (Lib.size_eq a).symm
theorem pow10 {n : Nat} (h : n ≤ 10) : 2 ^ n ≤ 1024 := Nat.le_trans (Nat.pow_le_pow_right (by omega) h) (by decide)
theorem nodup_le {l : List ByteArray} {acc : List ByteArray} (h0 : areLampsB l = true) (hn : acc.Nodup) (hl : ∀ x ∈ acc, litR l x = true) : acc.length ≤ 1024 := by
  have h1 := pigeon (2 ^ l.length) (acc.map fun x => numL x.data.toList) (by
    rw [List.Nodup, List.pairwise_map]
    refine List.Pairwise.imp_of_mem ?_ hn
    intro a b ha hb hne he
    exact hne (numS_inj (hl a ha) (hl b hb) he)) (fun x hx => by
      obtain ⟨a, ha, rfl⟩ := List.mem_map.1 hx
      exact lit_num (hl a ha))
  have h2 := pow10 (lamps_facts h0).2.1
  simp at h1
  omega
theorem idxS_lt {acc : List ByteArray} {s : ByteArray} (h : s ∈ acc) : idxS acc s < acc.length := List.findIdx_lt_length.2 ⟨s, h, by simp⟩
/-- The course of lamps: told for all lamps and states. -/
theorem courseP_some {l : List ByteArray} (h0 : areLampsB l = true) : ∀ (n : Nat) (acc : List ByteArray) (s : ByteArray), acc.Nodup → (∀ x ∈ acc, litR l x = true) → litR l s = true → 1025 ≤ acc.length + n →
    ∃ r1 r2, courseP (tickS l) n acc s = some (r1, r2) ∧ r1.length ≤ 1024 ∧ 0 ≤ r2 ∧ r2 < r1.length ∧ (∀ x ∈ r1, litR l x = true) ∧ (acc ++ [s]).head? = r1.head? := by
  intro n
  induction n with
  | zero =>
    intro acc s hn hl hs h
    have := nodup_le h0 hn hl
    omega
  | succ n ih =>
    intro acc s hn hl hs h
    rw [courseP]
    by_cases hm : s ∈ acc
    · rw [if_pos hm]
      refine ⟨acc, _, rfl, nodup_le h0 hn hl, by omega, by have := idxS_lt hm; omega, hl, ?_⟩
      cases acc with
      | nil => cases hm
      | cons a r => rfl
    · rw [if_neg hm]
      obtain ⟨r1, r2, e, h1, h2, h3, h4, h5⟩ := ih (acc ++ [s]) (tickS l s) (by
        rw [List.nodup_append]
        refine ⟨hn, by simp, ?_⟩
        intro a ha b hb
        simp at hb
        rintro rfl
        exact hm (hb ▸ ha)) (fun x hx => by
          rcases List.mem_append.1 hx with h | h
          · exact hl x h
          · simp at h; subst h; exact hs) (lit_tick hs) (by simp; omega)
      refine ⟨r1, r2, e, h1, h2, h3, h4, ?_⟩
      rw [← h5]
      cases acc <;> simp
/-- The course's list and place. -/
def courseR (l : List ByteArray) (s : ByteArray) : List ByteArray × Int := (courseP (tickS l) 1100 [] s).getD ([], 0)
theorem courseR_eq {l : List ByteArray} {s : ByteArray} (h : litR l s = true) : courseP (tickS l) 1100 [] s = some (courseR l s) ∧ (courseR l s).1.length ≤ 1024 ∧ 0 ≤ (courseR l s).2 ∧ (courseR l s).2 < (courseR l s).1.length ∧ (∀ x ∈ (courseR l s).1, litR l x = true) ∧ (courseR l s).1.head? = some s := by
  obtain ⟨r1, r2, e, h1, h2, h3, h4, h5⟩ := courseP_some (lit_facts h).1 1100 [] s (by simp) (fun x hx => by cases hx) h (by simp)
  have : courseR l s = (r1, r2) := by simp [courseR, e]
  rw [this]
  exact ⟨e, h1, h2, h3, h4, by simpa using h5.symm⟩
theorem shl1 {n : Nat} (h : n ≤ 10) : shl .i64 1 (n : Int) = ((2 ^ n : Nat) : Int) := by
  have : n = 0 ∨ n = 1 ∨ n = 2 ∨ n = 3 ∨ n = 4 ∨ n = 5 ∨ n = 6 ∨ n = 7 ∨ n = 8 ∨ n = 9 ∨ n = 10 := by omega
  rcases this with rfl | rfl | rfl | rfl | rfl | rfl | rfl | rfl | rfl | rfl | rfl <;> decide +kernel
theorem laNumber_eq {l : List ByteArray} {s : ByteArray} (h : litR l s = true) : spec_laNumber.f s = some (numL s.data.toList : Int) := by
  obtain ⟨_, h1, _, h2, h3, h4⟩ := lit_facts h
  unfold spec_laNumber.f
  rw [if_pos ⟨by omega, h4⟩]
theorem laPath_l0 {l : List ByteArray} : ∀ (n : Nat) (acc : List ByteArray) (s : ByteArray) (seen : List Int) (r1 : List ByteArray) (r2 : Int), (∀ x ∈ acc, litR l x = true) → litR l s = true → acc.length + n ≤ 1100 → seen.length = 2 ^ l.length →
    (∀ x, litR l x = true → rd seen (numL x.data.toList : Int) = if x ∈ acc then (idxS acc x : Int) + 1 else 0) → courseP (tickS l) n acc s = some (r1, r2) → Ev (fun k => spec_laPath.l0 k s seen acc l) (r1, r2) := by
  intro n
  induction n with
  | zero => intro acc s seen r1 r2 _ _ _ _ _ h; cases h
  | succ n ih =>
    intro acc s seen r1 r2 hl hs hn hsl hseen h
    rw [courseP] at h
    have hnum := lit_num hs
    have hrd := hseen s hs
    by_cases hm : s ∈ acc
    · rw [if_pos hm] at h hrd
      simp only [Option.some.injEq, Prod.mk.injEq] at h
      obtain ⟨rfl, rfl⟩ := h
      refine Ev.last fun k => ?_
      have := idxS_lt hm
      rw [spec_laPath.l0, laNumber_eq hs, Option.bind_some, if_pos (by omega), if_pos (by omega), hrd, if_pos (by omega), w64 (by omega) (by omega)]
      simp
    · rw [if_neg hm] at h hrd
      refine Ev.next (f := fun k => spec_laPath.l0 k (tickS l s) (seen.set (numL s.data.toList) ((acc.length + 1 : Nat) : Int)) (acc ++ [s]) l) ⟨0, fun k _ => ?_⟩ (ih (acc ++ [s]) (tickS l s) _ r1 r2 ?_ (lit_tick hs) ?_ ?_ ?_ h)
      · rw [spec_laPath.l0, laNumber_eq hs, Option.bind_some, if_pos (by omega), if_pos (by omega), hrd, if_neg (by omega), if_pos (by omega)]
        simp only [Option.bind_some, laTick_eq hs]
        simp
      · intro x hx
        rcases List.mem_append.1 hx with h' | h'
        · exact hl x h'
        · simp at h'; subst h'; exact hs
      · simp; omega
      · simpa using hsl
      · intro x hx
        have hxn := lit_num hx
        by_cases hc : x = s
        · subst hc
          rw [if_pos (by simp), idxS_new hm]
          have : numL x.data.toList < seen.length := by omega
          simp [rd, this]
        · have hne : numL s.data.toList ≠ numL x.data.toList := fun e => hc (numS_inj hx hs e.symm)
          have h1 := hseen x hx
          have e1 : rd (seen.set (numL s.data.toList) ((acc.length + 1 : Nat) : Int)) (numL x.data.toList : Int) = rd seen (numL x.data.toList : Int) := by
            simp [rd, List.getElem?_set_ne hne, List.getD]
          rw [e1, h1]
          by_cases hi : x ∈ acc
          · rw [if_pos hi, if_pos (by simp [hi]), idxS_append hi]
          · rw [if_neg hi, if_neg (by simp [hi, hc])]
theorem laPath_ev {l : List ByteArray} {s : ByteArray} (h : litR l s = true) : Ev (fun k => spec_laPath.f k l s) (courseR l s) := by
  obtain ⟨h1, h2, h3, h4, _, _⟩ := lit_facts h
  have hp := pow10 h4
  have e := shl1 h4
  refine Ev.congr (f := fun k => spec_laPath.l0 k s (List.replicate (2 ^ s.size) 0) [] l) (fun k => ?_) ?_
  · have e0 : (0 : Int) ≤ ((2 ^ s.size : Nat) : Int) := Int.natCast_nonneg _
    unfold spec_laPath.f
    rw [e, if_pos e0, Int.toNat_natCast, if_pos (by omega)]
  · refine laPath_l0 1100 [] s _ _ _ (fun x hx => by cases hx) h (by simp) (by simp [h2]) (fun x hx => ?_) (courseR_eq h).1
    simp [rd, List.getD, List.getElem?_replicate]
    split <;> rfl

/-! ### after impl_Lamps_course -/
theorem course_eq {l : List ByteArray} {s : ByteArray} (h : litR l s = true) : impl_Lamps_course.f l s = some (courseR l s) := by
  unfold impl_Lamps_course.f
  rw [if_pos h, (courseR_eq h).1]

/-! ### after impl_CycleOfLamps -/
theorem cyS_length (C : List ByteArray) : (cyS C).length = C.length := by
  unfold cyS
  rw [List.length_append, List.length_drop, List.length_take]
  omega
def cycleR (l : List ByteArray) (s : ByteArray) : List ByteArray × Bool := if litR l s = true then (cyS ((courseR l s).1.drop (courseR l s).2.toNat), true) else ([], false)
theorem cycleR_len (l : List ByteArray) (s : ByteArray) : (cycleR l s).1.length ≤ 1024 := by
  unfold cycleR
  by_cases h : litR l s = true
  · rw [if_pos h]
    have := (courseR_eq h).2.1
    simp only [cyS_length, List.length_drop]
    omega
  · rw [if_neg h]; simp
theorem implCycle_eq (l : List ByteArray) (s : ByteArray) : impl_CycleOfLamps.f l s = some (cycleR l s) := by
  unfold impl_CycleOfLamps.f cycleR
  rw [lit_eq, Option.bind_some]
  by_cases h : litR l s = true
  · obtain ⟨_, h1, h2, h3, _, _⟩ := courseR_eq h
    rw [if_pos h, if_pos h, course_eq h, Option.bind_some, if_pos ⟨h2, h3, by omega⟩]
  · rw [if_neg h, if_neg h]

/-! ### after spec_CycleOfLamps -/
/-- At m stands the least of the first i texts, for the first time. -/
def leastOk (C : List ByteArray) (i m : Nat) : Prop :=
  m < C.length ∧ (i = 0 → m = 0) ∧ (0 < i → m < i ∧ C.getD m ByteArray.empty = Lib.minOfS (C.take i) ∧ (∀ j, j < m → ¬ C.getD j ByteArray.empty = C.getD m ByteArray.empty) ∧ (∀ j, j < i → ¬ (C.getD j ByteArray.empty).data.toList < (C.getD m ByteArray.empty).data.toList))
theorem ba_ext {x y : ByteArray} (h : x.data.toList = y.data.toList) : x = y := ByteArray.ext (Array.toList_inj.1 h)
theorem least_first (C : List ByteArray) (h : 0 < C.length) : leastOk C 1 0 := by
  refine ⟨h, fun e => by omega, fun _ => ⟨by omega, ?_, fun j hj => by omega, fun j hj => ?_⟩⟩
  · obtain ⟨a, r, rfl⟩ : ∃ a r, C = a :: r := by cases C with | nil => simp at h | cons a r => exact ⟨a, r, rfl⟩
    simp [Lib.minOfS, Lib.minS]
  · obtain rfl : j = 0 := by omega
    exact List.lt_irrefl _
theorem least_new {C : List ByteArray} {i m : Nat} (hi : i < C.length) (h0 : 0 < i) (h : leastOk C i m) (hl : (C.getD i ByteArray.empty).data.toList < (C.getD m ByteArray.empty).data.toList) : leastOk C (i + 1) i := by
  obtain ⟨h1, _, h3⟩ := h
  obtain ⟨h4, h5, h6, h7⟩ := h3 h0
  have eg : C[i] = C.getD i ByteArray.empty := by simp [List.getD, hi]
  refine ⟨hi, fun e => by omega, fun _ => ⟨by omega, ?_, fun j hj e => ?_, fun j hj hc => ?_⟩⟩
  · rw [minOfS_take C i hi h0, ← h5, eg]
    unfold Lib.minS
    rw [if_neg]
    rintro (h | h)
    · exact List.lt_asymm h hl
    · rw [h] at hl; exact List.lt_irrefl _ hl
  · rw [← e] at hl; exact h7 j hj hl
  · rcases Nat.lt_or_ge j i with h | h
    · exact h7 j h (List.lt_trans hc hl)
    · obtain rfl : j = i := by omega
      exact List.lt_irrefl _ hc
theorem least_old {C : List ByteArray} {i m : Nat} (hi : i < C.length) (h0 : 0 < i) (h : leastOk C i m) (hl : ¬ (C.getD i ByteArray.empty).data.toList < (C.getD m ByteArray.empty).data.toList) : leastOk C (i + 1) m := by
  obtain ⟨h1, _, h3⟩ := h
  obtain ⟨h4, h5, h6, h7⟩ := h3 h0
  have eg : C[i] = C.getD i ByteArray.empty := by simp [List.getD, hi]
  refine ⟨h1, fun e => by omega, fun _ => ⟨by omega, ?_, h6, fun j hj => ?_⟩⟩
  · rw [minOfS_take C i hi h0, ← h5, eg]
    unfold Lib.minS
    rw [if_pos]
    by_cases c : (C.getD m ByteArray.empty).data.toList < (C.getD i ByteArray.empty).data.toList
    · exact .inl c
    · exact .inr (List.le_antisymm hl c)
  · rcases Nat.lt_or_ge j i with h | h
    · exact h7 j h
    · obtain rfl : j = i := by omega
      exact hl
theorem least_end {C : List ByteArray} {m : Nat} (hp : 0 < C.length) (h : leastOk C C.length m) : m = cyI C := by
  obtain ⟨h1, _, h3⟩ := h
  obtain ⟨_, h5, h6, _⟩ := h3 hp
  rw [List.take_length] at h5
  have eg : ∀ j (hj : j < C.length), C.getD j ByteArray.empty = C[j] := fun j hj => by simp [List.getD, hj]
  unfold cyI idxS
  refine ((List.findIdx_eq h1).2 ⟨?_, fun j hj => ?_⟩).symm
  · rw [← eg m h1, h5]; simp
  · have := h6 j hj
    rw [h5, eg j (by omega)] at this
    simpa using this
theorem cyc_l0 (C : List ByteArray) (hp : 0 < C.length) (hC : C.length ≤ 1100) : ∀ (n i m : Nat), i + n = C.length → leastOk C i m → Ev (fun k => spec_CycleOfLamps.l0 k C (m : Int) C (C.length : Int) (i : Int)) (cyS C, true) := by
  intro n
  induction n with
  | zero =>
    intro i m hi h
    obtain rfl : i = C.length := by omega
    have hm := least_end hp h
    have h1 := h.1
    refine Ev.last fun k => ?_
    rw [spec_CycleOfLamps.l0, if_neg (by omega), Option.bind_some, if_pos (by omega), if_pos (by omega), Int.toNat_natCast, if_pos (by simp; omega), Option.bind_some, if_pos (by simp; omega)]
    rw [cyS, ← hm]
    rfl
  | succ n ih =>
    intro i m hi h
    have hi' : i < C.length := by omega
    have h1 := h.1
    have er : rdOf ByteArray.empty C (i : Int) = C.getD i ByteArray.empty := by simp [rdOf]
    have em : rdOf ByteArray.empty C (m : Int) = C.getD m ByteArray.empty := by simp [rdOf]
    have ew : wrap64 ((i : Int) + 1) = ((i + 1 : Nat) : Int) := by rw [w64 (by omega) (by omega)]; omega
    by_cases c : (C.getD i ByteArray.empty).data.toList < (C.getD m ByteArray.empty).data.toList
    · have h0 : 0 < i := by
        rcases Nat.eq_zero_or_pos i with e | e
        · have := h.2.1 e
          subst e this
          exact absurd c (List.lt_irrefl _)
        · exact e
      refine Ev.next ⟨0, fun k _ => ?_⟩ (ih (i + 1) i (by omega) (least_new hi' h0 h c))
      rw [spec_CycleOfLamps.l0, if_pos (by omega), if_pos (by omega), if_pos (by omega), if_pos (by omega), if_pos (by omega), er, em, ew, bytesLess_eq, Lib.toList_data, Lib.toList_data, if_pos (decide_eq_true c)]
    · have h' : leastOk C (i + 1) m := by
        rcases Nat.eq_zero_or_pos i with e | e
        · have := h.2.1 e
          subst e this
          exact least_first C hp
        · exact least_old hi' e h c
      refine Ev.next ⟨0, fun k _ => ?_⟩ (ih (i + 1) m (by omega) h')
      rw [spec_CycleOfLamps.l0, if_pos (by omega), if_pos (by omega), if_pos (by omega), if_pos (by omega), if_pos (by omega), er, em, ew, bytesLess_eq, Lib.toList_data, Lib.toList_data, if_neg (by simpa using c)]
theorem specCycle_ev (l : List ByteArray) (s : ByteArray) : Ev (fun k => spec_CycleOfLamps.f k l s) (cycleR l s) := by
  unfold cycleR
  by_cases h : litR l s = true
  · obtain ⟨_, h1, h2, h3, _, _⟩ := courseR_eq h
    obtain ⟨K1, hK1⟩ := laPath_ev h
    generalize courseR l s = R at h1 h2 h3 hK1
    obtain ⟨P, d⟩ := R
    simp only at h1 h2 h3
    obtain ⟨d, rfl⟩ : ∃ e : Nat, d = (e : Int) := ⟨d.toNat, by omega⟩
    have hl : (P.drop d).length = P.length - d := List.length_drop
    obtain ⟨K2, hK2⟩ := cyc_l0 (P.drop d) (by omega) (by omega) (P.drop d).length 0 0 (by omega) ⟨by omega, fun _ => rfl, fun e => absurd e (by omega)⟩
    refine ⟨K1 + K2, fun k hk => ?_⟩
    have hK1 := hK1 k (by omega)
    have hK2 := hK2 k (by omega)
    simp only at hK1 hK2
    simp only [spec_CycleOfLamps.f, laAsked_eq, h, hK1, Option.bind_some, if_true, Int.toNat_natCast]
    rw [if_pos (by omega), if_pos (by omega)]
    exact hK2
  · have hf : litR l s = false := by simpa using h
    exact ⟨0, fun k _ => by simp [spec_CycleOfLamps.f, laAsked_eq, hf]⟩

end Go.Proofs.YtpjdlobkeafacaaDoor.PCycleOfLamps
