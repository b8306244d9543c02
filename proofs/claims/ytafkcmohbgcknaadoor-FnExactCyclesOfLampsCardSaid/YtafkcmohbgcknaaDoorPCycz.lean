/- What the printed functions answer, function by function: plain statements, without memory. (wip/after) -/
import Derived.Test.YtafkcmohbgcknaaDoorPCycx
import Derived.Test.YtafkcmohbgcknaaDoorEv
import Derived.Test.YtafkcmohbgcknaaDoorState
namespace Go.Proofs.YtafkcmohbgcknaaDoor.PCyc
open Go.RowKit Go.Proofs.YtafkcmohbgcknaaDoorW.PrintWords Go.Proofs.YtafkcmohbgcknaaDoorW.PrintLast Go.Proofs.YtafkcmohbgcknaaDoorW.PrintMore
set_option linter.unusedVariables false
set_option linter.unusedSimpArgs false
/-! ### after laws_eqIntS -/
theorem laws_eqIntS.ev (l : List Int) (hl : l.length ≤ 9223372036854775807) : Ev (fun k => laws_eqIntS.f k l l) true := by
  unfold laws_eqIntS.f
  refine Ev.congr (f := fun k => laws_eqIntS.l0 k l l 0) (fun k => if_pos rfl) ?_
  refine eq_ev laws_eqIntS.l0 ?_ ?_ l hl
  · intro l i h hl
    refine ⟨0, fun k _ => ?_⟩
    have ew : wrap64 ((i : Int) + 1) = ((i + 1 : Nat) : Int) := by rw [w64 (by omega) (by omega)]; omega
    rw [laws_eqIntS.l0, if_pos (by omega), if_pos (by omega), if_pos (by omega)]
    simp [ew]
  · intro k l
    rw [laws_eqIntS.l0, if_neg (by omega)]


/-! ### after laws_markIntS -/
theorem laws_markIntS.ev (l : List Int) (a : Int) (h0 : 0 ≤ a) (hB : a + 1 * l.length ≤ 4611686018427387904) : Ev (fun k => laws_markIntS.f k l a) (a + 1 * l.length, marks (fun a : Int => a) 1 l.length a) := by
  unfold laws_markIntS.f
  refine mark_ev laws_markIntS.l0 (fun a : Int => a) 1 4611686018427387904 ?_ ?_ l a h0 hB (by omega)
  · intro l a i h h0 hB hl
    refine ⟨0, fun k _ => ?_⟩
    have ew : wrap64 ((i : Int) + 1) = ((i + 1 : Nat) : Int) := by rw [w64 (by omega) (by omega)]; omega
    have e1 : wrap64 (a + 1) = a + 1 := w64 (by omega) (by omega)
    rw [laws_markIntS.l0, if_pos (by omega), if_pos (by omega)]
    simp [ew, Int.add_assoc, rd, List.set_set, h, e1]
  · intro k l a
    rw [laws_markIntS.l0, if_neg (by omega)]


/-! ### after laws_heldIntS -/
theorem laws_heldIntS.ev (n : Nat) (a : Int) (h0 : 0 ≤ a) (hB : a + 1 * n ≤ 4611686018427387904) : Ev (fun k => laws_heldIntS.f k (marks (fun a : Int => a) 1 n a) a) (a + 1 * n) := by
  unfold laws_heldIntS.f
  refine held_ev laws_heldIntS.l0 (fun a : Int => a) 1 4611686018427387904 ?_ ?_ n a h0 hB (by omega)
  · intro l a i h h0 hB hl hv
    refine ⟨0, fun k _ => ?_⟩
    have ew : wrap64 ((i : Int) + 1) = ((i + 1 : Nat) : Int) := by rw [w64 (by omega) (by omega)]; omega
    have e1 : wrap64 (a + 1) = a + 1 := w64 (by omega) (by omega)
    have e : rd l (i : Int) = l[i] := by simp [rd, h]
    rw [laws_heldIntS.l0, if_pos (by omega), if_pos (by omega)]
    simp [e, hv, ew, Int.add_assoc, e1]
  · intro k l a
    rw [laws_heldIntS.l0, if_neg (by omega)]

/-! ### after laws_eqStringS -/
theorem laws_eqStringS.ev (l : List ByteArray) (hl : l.length ≤ 9223372036854775807) : Ev (fun k => laws_eqStringS.f k l l) true := by
  unfold laws_eqStringS.f
  refine Ev.congr (f := fun k => laws_eqStringS.l0 k l l 0) (fun k => if_pos rfl) ?_
  refine eq_ev laws_eqStringS.l0 ?_ ?_ l hl
  · intro l i h hl
    refine ⟨0, fun k _ => ?_⟩
    have ew : wrap64 ((i : Int) + 1) = ((i + 1 : Nat) : Int) := by rw [w64 (by omega) (by omega)]; omega
    rw [laws_eqStringS.l0, if_pos (by omega), if_pos (by omega), if_pos (by omega)]
    simp [ew]
  · intro k l
    rw [laws_eqStringS.l0, if_neg (by omega)]

/-! ### after laws_markText -/
theorem strOfNums_one (z : Int) : (strOfNums [z]).size = 1 := by simp [strOfNums]; rfl
theorem markText_l0 : ∀ (d n : Nat) (x : ByteArray), n < 10 ^ d → n ≤ 4611686018427387904 → x.size + d ≤ 1000 → ∃ r, laws_markText.l0 (d + 1) n x = some r := by
  intro d
  induction d with
  | zero =>
    intro n x hn hb hx
    have : n = 0 := by simpa using hn
    subst this
    rw [laws_markText.l0, if_neg (by omega), if_pos (by omega)]
    exact ⟨_, rfl⟩
  | succ d ih =>
    intro n x hn hb hx
    by_cases h0 : n = 0
    · subst h0
      rw [laws_markText.l0, if_neg (by omega), if_pos (by omega)]
      exact ⟨_, rfl⟩
    · have e : wrap64 (Int.tdiv (n : Int) 10) = ((n / 10 : Nat) : Int) := by
        have : Int.tdiv (n : Int) 10 = ((n / 10 : Nat) : Int) := by
          rw [Int.tdiv_eq_ediv_of_nonneg (by omega)]; rfl
        rw [this, w64 (by omega) (by omega)]
      rw [laws_markText.l0, if_pos (by omega)]
      simp only [Option.bind_some, strOfNums_one]
      rw [if_pos (by omega), e]
      refine ih (n / 10) _ ?_ (by omega) ?_
      · rw [Nat.pow_succ] at hn; omega
      · rw [ByteArray.size_append, strOfNums_one]; omega
/-- The text of a mark. -/
def markT (a : Int) : ByteArray := (laws_markText.f 40 a).getD ⟨#[]⟩
theorem markT_ev (a : Int) (h0 : 0 ≤ a) (hB : a ≤ 4611686018427387904) : Ev (fun k => laws_markText.f k a) (markT a) := by
  have h : ∃ r, laws_markText.f 40 a = some r := by
    unfold laws_markText.f
    by_cases h : a ≤ 0
    · rw [if_pos h]; exact ⟨_, rfl⟩
    · rw [if_neg h]
      obtain ⟨n, rfl⟩ : ∃ n : Nat, a = n := ⟨a.toNat, by omega⟩
      exact markText_l0 39 n _ (Nat.lt_of_le_of_lt (by omega : n ≤ 4611686018427387904) (by decide)) (by omega) (by decide)
  obtain ⟨r, hr⟩ := h
  unfold markT
  rw [hr]
  exact Ev.of (laws_markText.mono a) hr

/-! ### after laws_markStringS -/
theorem laws_markStringS.ev (l : List ByteArray) (a : Int) (h0 : 0 ≤ a) (hB : a + 1 * l.length ≤ 4611686018427387904) : Ev (fun k => laws_markStringS.f k l a) (a + 1 * l.length, marks markT 1 l.length a) := by
  unfold laws_markStringS.f
  refine mark_ev laws_markStringS.l0 markT 1 4611686018427387904 ?_ ?_ l a h0 hB (by omega)
  · intro l a i h h0 hB hl
    obtain ⟨K, hK⟩ := markT_ev a h0 (by omega)
    refine ⟨K, fun k hk => ?_⟩
    have ew : wrap64 ((i : Int) + 1) = ((i + 1 : Nat) : Int) := by rw [w64 (by omega) (by omega)]; omega
    have e1 : wrap64 (a + 1) = a + 1 := w64 (by omega) (by omega)
    have := hK k hk
    simp only at this
    rw [laws_markStringS.l0, if_pos (by omega), this, Option.bind_some, if_pos (by omega), ew, e1, Int.toNat_natCast]
    rfl
  · intro k l a
    rw [laws_markStringS.l0, if_neg (by omega)]

/-! ### after laws_szStringS -/
theorem szStringS_l0 : ∀ (n i : Nat) (l : List ByteArray) (a : Int), i + n = l.length → 0 ≤ a → a ≤ 1048576 → l.length ≤ 9223372036854775807 → (∀ s ∈ l, s.size ≤ 9223372036854775807) →
    ∃ v : Int, Ev (fun k => laws_szStringS.l0 k l a (i : Int)) v ∧ v ≤ a ∧ (0 ≤ v → ∀ s ∈ l.drop i, (s.size : Int) ≤ 1048576) := by
  intro n
  induction n with
  | zero =>
    intro i l a hi h0 h1 hl hs
    refine ⟨a, Ev.last fun k => ?_, by omega, fun _ s hs' => ?_⟩
    · rw [laws_szStringS.l0, if_neg (by omega)]
    · rw [List.drop_of_length_le (by omega)] at hs'; cases hs'
  | succ n ih =>
    intro i l a hi h0 h1 hl hs
    have hlt : i < l.length := by omega
    have hsz := hs l[i] (List.getElem_mem hlt)
    have er : rdOf ByteArray.empty l (i : Int) = l[i] := by simp [rdOf, hlt]
    have ew : wrap64 ((i : Int) + 1) = ((i + 1 : Nat) : Int) := by rw [w64 (by omega) (by omega)]; omega
    have ea : wrap64 (a - l[i].size) = a - l[i].size := w64 (by omega) (by omega)
    by_cases c : a - (l[i].size : Int) < 0
    · refine ⟨-1, Ev.next (f := fun _ => some (-1)) ⟨0, fun k _ => ?_⟩ (Ev.now _), by omega, fun h => by omega⟩
      rw [laws_szStringS.l0, if_pos (by omega), if_pos (by omega)]
      simp only [er, ea]
      rw [if_pos c]
    · obtain ⟨v, hv, hva, hvs⟩ := ih (i + 1) l (a - l[i].size) (by omega) (by omega) (by omega) hl hs
      refine ⟨v, Ev.next ⟨0, fun k _ => ?_⟩ hv, by omega, fun h s hs' => ?_⟩
      · rw [laws_szStringS.l0, if_pos (by omega), if_pos (by omega)]
        simp only [er, ea]
        rw [if_neg c, ew]
      · rw [List.drop_eq_getElem_cons hlt, List.mem_cons] at hs'
        rcases hs' with rfl | h'
        · omega
        · exact hvs h s h'
theorem laws_szStringS.ev (l : List ByteArray) (hl : l.length ≤ 9223372036854775807) (hs : ∀ s ∈ l, s.size ≤ 9223372036854775807) :
    ∃ v : Int, Ev (fun k => laws_szStringS.f k l 1048576) v ∧ (0 ≤ v → l.length ≤ 1048576 ∧ ∀ s ∈ l, s.size ≤ 1048576) := by
  have ea : wrap64 (1048576 - (l.length : Int)) = 1048576 - (l.length : Int) := w64 (by omega) (by omega)
  by_cases c : 1048576 - (l.length : Int) < 0
  · refine ⟨-1, Ev.same (f := fun _ => some (-1)) ⟨0, fun k _ => ?_⟩ (Ev.now _), fun h => by omega⟩
    simp only [laws_szStringS.f, ea]
    rw [if_pos c]
  · obtain ⟨v, hv, _, hvs⟩ := szStringS_l0 l.length 0 l (1048576 - l.length) (by omega) (by omega) (by omega) hl hs
    refine ⟨v, Ev.same ⟨0, fun k _ => ?_⟩ hv, fun h => ⟨by omega, fun s h' => by have := hvs h s (by simpa using h'); omega⟩⟩
    simp only [laws_szStringS.f, ea]
    rw [if_neg c]
    rfl
theorem laws_szStringS.evA (l : List ByteArray) (a : Int) (h0 : 0 ≤ a) (h1 : a ≤ 1048576) (hl : l.length ≤ 9223372036854775807) (hs : ∀ s ∈ l, s.size ≤ 9223372036854775807) :
    ∃ v : Int, Ev (fun k => laws_szStringS.f k l a) v ∧ (0 ≤ v → l.length ≤ 1048576 ∧ ∀ s ∈ l, s.size ≤ 1048576) := by
  have ea : wrap64 (a - (l.length : Int)) = a - (l.length : Int) := w64 (by omega) (by omega)
  by_cases c : a - (l.length : Int) < 0
  · refine ⟨-1, Ev.same (f := fun _ => some (-1)) ⟨0, fun k _ => ?_⟩ (Ev.now _), fun h => by omega⟩
    simp only [laws_szStringS.f, ea]
    rw [if_pos c]
  · obtain ⟨v, hv, _, hvs⟩ := szStringS_l0 l.length 0 l (a - l.length) (by omega) (by omega) (by omega) hl hs
    refine ⟨v, Ev.same ⟨0, fun k _ => ?_⟩ hv, fun h => ⟨by omega, fun s h' => by have := hvs h s (by simpa using h'); omega⟩⟩
    simp only [laws_szStringS.f, ea]
    rw [if_neg c]
    rfl

/-! ### after laws_toStringS -/
theorem laws_toStringS.ev (l : List ByteArray) (hl : l.length ≤ 1048576) : Ev (fun k => laws_toStringS.f k l) l := by
  have h1 : 0 ≤ (l.length : Int) := by omega
  have h2 : (l.length : Int).toNat ≤ 17592186044416 := by omega
  unfold laws_toStringS.f
  simp only [if_pos h1, if_pos h2]
  have key : Ev (fun k => laws_toStringS.l0 k l (List.replicate (l.length : Int).toNat (⟨#[]⟩ : ByteArray)) 0) (l.map fun x => x) := to_ev laws_toStringS.l0 (fun x : ByteArray => x) (fun l acc i h hc hl => by
    refine ⟨0, fun k _ => ?_⟩
    have e : rdOf ByteArray.empty l (i : Int) = l[i] := by simp [rdOf, h]
    have ew : wrap64 ((i : Int) + 1) = ((i + 1 : Nat) : Int) := by rw [w64 (by omega) (by omega)]; omega
    rw [laws_toStringS.l0, if_pos (by omega), if_pos (by omega), if_pos (by omega), e, ew]
    rfl) (fun k l acc => by rw [laws_toStringS.l0, if_neg (by omega)]) l _ (by simp) (by omega)
  have e : (l.map fun x : ByteArray => x) = l := by simp
  rw [e] at key
  exact key

/-! ### after laws_szLamps -/
theorem szLamps_ev (l : List ByteArray) (hl : l.length ≤ 9223372036854775807) (hs : ∀ s ∈ l, s.size ≤ 9223372036854775807) :
    ∃ v : Int, Ev (fun k => laws_szLamps.f k l 1048576) v ∧ (0 ≤ v → l.length ≤ 1048576 ∧ ∀ s ∈ l, s.size ≤ 1048576) := by
  obtain ⟨v, ⟨K, hK⟩, h⟩ := laws_szStringS.ev l hl hs
  by_cases c : v < 0
  · exact ⟨-1, ⟨K, fun k hk => by simp only [laws_szLamps.f, hK k hk, Option.bind_some]; rw [if_pos c]⟩, fun h => by omega⟩
  · exact ⟨v, ⟨K, fun k hk => by simp only [laws_szLamps.f, hK k hk, Option.bind_some]; rw [if_neg c]⟩, h⟩

/-! ### after laws_toLamps -/
theorem toLamps_ev (l : List ByteArray) (hl : l.length ≤ 1048576) : Ev (fun k => laws_toLamps.f k l) l := by
  obtain ⟨K, hK⟩ := laws_toStringS.ev l hl
  exact ⟨K, fun k hk => by simp [laws_toLamps.f, hK k hk]⟩

/-! ### after laws_eqLamps -/
theorem eqLamps_ev (l : List ByteArray) (hl : l.length ≤ 9223372036854775807) : Ev (fun k => laws_eqLamps.f k l l) true := by
  obtain ⟨K, hK⟩ := laws_eqStringS.ev l hl
  exact ⟨K, fun k hk => by simp [laws_eqLamps.f, hK k hk]⟩

/-! ### after laws_markLamps -/
theorem markLamps_ev (l : List ByteArray) (hl : l.length ≤ 1048577) : Ev (fun k => laws_markLamps.f k l 1) (1 + 1 * l.length, marks markT 1 l.length 1) := by
  obtain ⟨K, hK⟩ := laws_markStringS.ev l 1 (by omega) (by omega)
  exact ⟨K, fun k hk => by simp [laws_markLamps.f, hK k hk]⟩

/-! ### after spec_laTick -/
theorem laTick_eq {l : List ByteArray} {s : ByteArray} (h : litR l s = true) : spec_laTick.f l s = some (tickS l s) := by
  obtain ⟨_, h1, _, h2, h3, h4⟩ := lit_facts h
  unfold spec_laTick.f
  rw [if_pos ⟨h1, by omega, h3, h4⟩]
  rfl

/-! ### after impl_Lamps_tick -/
theorem tick_eq {l : List ByteArray} {s : ByteArray} (h : litR l s = true) : impl_Lamps_tick.f l s = some (tickS l s) := by
  obtain ⟨_, h1, _, h2, h3, h4⟩ := lit_facts h
  unfold impl_Lamps_tick.f
  rw [if_pos ⟨h1, by omega, h3⟩]
  rfl

/-! ### after spec_laOf -/
/-- The state of so many lamps with a number. -/
def bitsL : Nat → Nat → List UInt8
  | 0, _ => []
  | k + 1, i => bitsL k (i / 2) ++ [if i % 2 = 1 then 49 else 48]
def bitsS (k i : Nat) : ByteArray := ⟨(bitsL k i).toArray⟩
theorem bitsL_length : ∀ (k i : Nat), (bitsL k i).length = k
  | 0, _ => rfl
  | k + 1, i => by rw [bitsL, List.length_append, bitsL_length k]; rfl
theorem bitsS_size (k i : Nat) : (bitsS k i).size = k := by
  show (bitsL k i).toArray.size = k
  rw [List.size_toArray, bitsL_length]
theorem bitsS_list (k i : Nat) : (bitsS k i).data.toList = bitsL k i := rfl
theorem bitsL_all : ∀ (k i : Nat), (bitsL k i).all isBit = true
  | 0, _ => rfl
  | k + 1, i => by
    rw [bitsL, List.all_append, bitsL_all k]
    split <;> decide
theorem bitsL_num : ∀ (k i : Nat), i < 2 ^ k → numL (bitsL k i) = i
  | 0, i, h => by
    have : i = 0 := by simpa using h
    subst this; rfl
  | k + 1, i, h => by
    rw [bitsL, numL_snoc, bitsL_num k (i / 2) (by rw [Nat.pow_succ] at h; omega)]
    by_cases c : i % 2 = 1
    · simp [c]; omega
    · simp [c]; omega
theorem bit_tab : ((List.range 1024).all fun i => (List.range 10).all fun x => decide (Go.bits .and .i64 (shr .i64 (i : Int) (x : Int)) 1 = ((i / 2 ^ x % 2 : Nat) : Int))) = true := by decide +kernel
theorem bit_at {i x : Nat} (hi : i < 1024) (hx : x < 10) : Go.bits .and .i64 (shr .i64 (i : Int) (x : Int)) 1 = ((i / 2 ^ x % 2 : Nat) : Int) := by
  have h1 := List.all_eq_true.1 bit_tab i (List.mem_range.2 hi)
  have h2 := List.all_eq_true.1 h1 x (List.mem_range.2 hx)
  simpa using h2
theorem num1 (k b : Nat) (hb : b < 2) : spec_l1Num.f (k + 1) (b : Int) = some ⟨#[if b = 1 then 49 else 48]⟩ := by
  have : b = 0 ∨ b = 1 := by omega
  rcases this with rfl | rfl <;> (rw [spec_l1Num.f, if_pos (by decide)]; decide +kernel)
theorem two10 {n : Nat} (h : n ≤ 10) : 2 ^ n ≤ 1024 := Nat.le_trans (Nat.pow_le_pow_right (by omega) h) (by decide)
theorem bitsS_snoc (k i : Nat) : bitsS k (i / 2) ++ ⟨#[if i % 2 = 1 then 49 else 48]⟩ = bitsS (k + 1) i := by
  unfold bitsS
  rw [str_snoc, bitsL]
theorem laOf_l0 {n i : Nat} (hn : n ≤ 10) (hi : i < 2 ^ n) : ∀ (m k : Nat), m ≤ n → spec_laOf.l0 (k + m + 2) (i : Int) (bitsS (n - m) (i / 2 ^ m)) ((m : Int) - 1) = some (bitsS n i)
  | 0, k, _ => by
    rw [show k + 0 + 2 = (k + 1) + 1 from rfl, spec_laOf.l0, if_neg (by omega)]
    simp
  | m + 1, k, h => by
    have h2 := two10 hn
    have e1 : ((m + 1 : Nat) : Int) - 1 = (m : Int) := by omega
    have e2 : n - m = (n - (m + 1)) + 1 := by omega
    have e3 : i / 2 ^ (m + 1) = i / 2 ^ m / 2 := by rw [Nat.pow_succ, Nat.div_div_eq_div_mul]
    rw [show k + (m + 1) + 2 = (k + m + 2) + 1 by omega, spec_laOf.l0, e1, if_pos (by omega), if_pos (by omega), bit_at (by omega) (by omega), show k + m + 2 = (k + m + 1) + 1 from rfl, num1 _ _ (by omega), Option.bind_some, e3, bitsS_size, if_pos (show n - (m + 1) + (⟨#[if i / 2 ^ m % 2 = 1 then 49 else 48]⟩ : ByteArray).size ≤ 9223372036854775807 from by show n - (m + 1) + 1 ≤ _; omega), bitsS_snoc, ← e2, w64 (by omega) (by omega)]
    exact laOf_l0 hn hi m k (by omega)
theorem laOf_at {n i : Nat} (hn : n ≤ 10) (hi : i < 2 ^ n) (k : Nat) (hk : 12 ≤ k) : spec_laOf.f k (n : Int) (i : Int) = some (bitsS n i) := by
  obtain ⟨k', rfl⟩ : ∃ k', k = k' + n + 2 := ⟨k - n - 2, by omega⟩
  have := laOf_l0 hn hi n k' (Nat.le_refl _)
  rw [Nat.sub_self] at this
  unfold spec_laOf.f
  rw [w64 (by omega) (by omega)]
  exact this

/-! ### after spec_laNext -/
theorem numB_inj : ∀ (n : Nat) (a b : List UInt8), a.length = n → b.length = n → a.all isBit = true → b.all isBit = true → numL a = numL b → a = b := by
  intro n
  induction n with
  | zero => intro a b ha hb _ _ _; rw [List.length_eq_zero_iff.1 ha, List.length_eq_zero_iff.1 hb]
  | succ n ih =>
    intro a b ha hb h1 h2 h
    rcases List.eq_nil_or_concat a with rfl | ⟨a', x, rfl⟩
    · cases ha
    rcases List.eq_nil_or_concat b with rfl | ⟨b', y, rfl⟩
    · cases hb
    simp only [List.concat_eq_append] at *
    rw [numL_snoc, numL_snoc] at h
    simp only [List.all_append, List.all_cons, List.all_nil, Bool.and_true, Bool.and_eq_true] at h1 h2
    have hx : x = 48 ∨ x = 49 := by simpa [isBit] using h1.2
    have hy : y = 48 ∨ y = 49 := by simpa [isBit] using h2.2
    have hl1 : a'.length = n := by simpa using ha
    have hl2 : b'.length = n := by simpa using hb
    rcases hx with rfl | rfl <;> rcases hy with rfl | rfl
    · rw [ih a' b' hl1 hl2 h1.1 h2.1 (by simp at h; omega)]
    · simp at h; omega
    · simp at h; omega
    · rw [ih a' b' hl1 hl2 h1.1 h2.1 (by simp at h; omega)]
theorem shlN {n : Nat} (h : n ≤ 10) : shl .i64 1 (n : Int) = ((2 ^ n : Nat) : Int) := by
  have : n = 0 ∨ n = 1 ∨ n = 2 ∨ n = 3 ∨ n = 4 ∨ n = 5 ∨ n = 6 ∨ n = 7 ∨ n = 8 ∨ n = 9 ∨ n = 10 := by omega
  rcases this with rfl | rfl | rfl | rfl | rfl | rfl | rfl | rfl | rfl | rfl | rfl <;> decide +kernel
theorem laNum_lit {l : List ByteArray} {s : ByteArray} (h : litR l s = true) : spec_laNumber.f s = some (numL s.data.toList : Int) := by
  obtain ⟨_, h1, _, h2, h3, h4⟩ := lit_facts h
  unfold spec_laNumber.f
  rw [if_pos ⟨by omega, h4⟩]
theorem lit_bits {l : List ByteArray} (h : areLampsB l = true) (j : Nat) : litR l (bitsS l.length j) = true := by
  rw [litR, h, litB_eq, bitsS_size, bitsS_list, bitsL_all]
  simp
/-- Lit states are the same if their numbers are. -/
theorem litNum_iff {l : List ByteArray} {a b : ByteArray} (ha : litR l a = true) (hb : litR l b = true) : (a.data.toList == b.data.toList) = decide ((numL a.data.toList : Int) = numL b.data.toList) := by
  obtain ⟨_, h1, _, _, _, h2⟩ := lit_facts ha
  obtain ⟨_, h3, _, _, _, h4⟩ := lit_facts hb
  have e1 := Lib.size_eq a
  have e2 := Lib.size_eq b
  rw [Bool.eq_iff_iff, beq_iff_eq, decide_eq_true_iff]
  exact ⟨fun h => by rw [h], fun h => numB_inj a.size _ _ (by omega) (by omega) h2 h4 (by omega)⟩
def nextL (l : List ByteArray) : List Int := (List.range (2 ^ l.length)).map fun j => (numL (tickS l (bitsS l.length j)).data.toList : Int)
theorem nextL_length (l : List ByteArray) : (nextL l).length = 2 ^ l.length := by simp [nextL]
theorem nextL_at (l : List ByteArray) (j : Nat) (h : j < 2 ^ l.length) : rd (nextL l) (j : Int) = (numL (tickS l (bitsS l.length j)).data.toList : Int) := by
  simp [rd, nextL, h]
theorem laNext_ev {l : List ByteArray} (h : areLampsB l = true) : Ev (fun k => spec_laNext.f k l) (nextL l) := by
  have hn := (lamps_facts h).2.1
  have h2 := two10 hn
  have key : ∀ (d i : Nat), i + d = 2 ^ l.length → Ev (fun k => spec_laNext.l0 k ((List.range i).map fun j => (numL (tickS l (bitsS l.length j)).data.toList : Int)) (i : Int) l) (nextL l) := by
    intro d
    induction d with
    | zero =>
      intro i hi
      obtain rfl : i = 2 ^ l.length := by omega
      exact Ev.last fun k => by rw [spec_laNext.l0, shlN hn, if_neg (by omega)]; rfl
    | succ d ih =>
      intro i hi
      refine Ev.next ⟨12, fun k hk => ?_⟩ (ih (i + 1) (by omega))
      rw [spec_laNext.l0, shlN hn, if_pos (by omega), laOf_at hn (by omega) k hk, Option.bind_some, laTick_eq (lit_bits h i), Option.bind_some, laNum_lit (lit_tick (lit_bits h i)), Option.bind_some, if_pos (by simp; omega), w64 (by omega) (by omega), List.range_succ, List.map_append]
      rfl
  exact key (2 ^ l.length) 0 (by omega)

/-! ### after impl_textStates -/
def allS (n : Nat) : List ByteArray := (List.range (2 ^ n)).map (bitsS n)
theorem allS_length (n : Nat) : (allS n).length = 2 ^ n := by simp [allS]
theorem ts_l1 {k : Nat} (hk : k ≤ 9) (x8 x9 : Int) : ∀ (m j F : Nat), j + m = 2 ^ k → impl_textStates.l1 (F + m + 1) ((List.range (2 * j)).map (bitsS (k + 1))) x8 x9 (allS k) ((allS k).length : Int) (j : Int) = impl_textStates.l0 F (allS (k + 1)) x8 (wrap64 (x9 + 1))
  | 0, j, F, h => by
    rw [Nat.add_zero, impl_textStates.l1, if_neg (by rw [allS_length]; omega), show 2 * j = 2 ^ (k + 1) by rw [Nat.pow_succ]; omega]
    rfl
  | m + 1, j, F, h => by
    have h2 := two10 (show k ≤ 10 by omega)
    have hj : j < 2 ^ k := by omega
    have er : rdOf ByteArray.empty (allS k) (j : Int) = bitsS k j := by simp [rdOf, allS, hj]
    have e0 : bitsS k j ++ (⟨#[48]⟩ : ByteArray) = bitsS (k + 1) (2 * j) := by
      have := bitsS_snoc k (2 * j)
      rwa [show 2 * j / 2 = j by omega, if_neg (by omega)] at this
    have e1 : bitsS k j ++ (⟨#[49]⟩ : ByteArray) = bitsS (k + 1) (2 * j + 1) := by
      have := bitsS_snoc k (2 * j + 1)
      rwa [show (2 * j + 1) / 2 = j by omega, if_pos (by omega)] at this
    have el : (List.range (2 * j)).map (bitsS (k + 1)) ++ [bitsS (k + 1) (2 * j), bitsS (k + 1) (2 * j + 1)] = (List.range (2 * (j + 1))).map (bitsS (k + 1)) := by
      rw [show 2 * (j + 1) = 2 * j + 1 + 1 by omega, List.range_succ, List.range_succ, List.map_append, List.map_append]
      simp
    rw [show F + (m + 1) + 1 = (F + m + 1) + 1 by omega, impl_textStates.l1, if_pos (by rw [allS_length]; omega), if_pos (by omega), if_pos (by rw [allS_length]; omega), er, if_pos (by rw [bitsS_size]; omega), Option.bind_some, if_pos (by simp; omega), e0, e1, el, w64 (by omega) (by omega)]
    exact ts_l1 hk x8 x9 m (j + 1) F (by omega)
theorem ts_l0 {n : Nat} (hn : n ≤ 10) : ∀ (m k F : Nat), k + m = n → 2 ^ n + 2 * m + 1 ≤ F + 2 ^ k → impl_textStates.l0 F (allS k) (n : Int) (k : Int) = some (allS n)
  | 0, k, F, h, hF => by
    obtain rfl : k = n := by omega
    obtain ⟨F, rfl⟩ : ∃ F', F = F' + 1 := ⟨F - 1, by omega⟩
    rw [impl_textStates.l0, if_neg (by omega)]
  | m + 1, k, F, h, hF => by
    have h2 : 2 ^ (k + 1) = 2 ^ k * 2 := Nat.pow_succ 2 k
    have h3 : 2 ^ (k + 1) ≤ 2 ^ n := Nat.pow_le_pow_right (by omega) (by omega)
    obtain ⟨F, rfl⟩ : ∃ F', F = F' + 2 ^ k + 1 + 1 := ⟨F - 2 ^ k - 2, by omega⟩
    rw [impl_textStates.l0, if_pos (by omega)]
    have := ts_l1 (show k ≤ 9 by omega) (n : Int) (k : Int) (2 ^ k) 0 F (by omega)
    rw [w64 (by omega) (by omega)] at this
    refine Eq.trans this ?_
    exact ts_l0 hn m (k + 1) F (by omega) (by omega)
theorem textStates_at {n : Nat} (hn : n ≤ 10) : impl_textStates.f 3000 (n : Int) = some (allS n) := by
  unfold impl_textStates.f
  have h2 := two10 hn
  exact ts_l0 hn n 0 3000 (by omega) (by omega)

/-! ### after spec_CyclesOfLamps -/
theorem numS_injU {l : List ByteArray} {a b : ByteArray} (ha : litR l a = true) (hb : litR l b = true) (h : numL a.data.toList = numL b.data.toList) : a = b := by
  obtain ⟨_, h1, _, _, _, h2⟩ := lit_facts ha
  obtain ⟨_, h3, _, _, _, h4⟩ := lit_facts hb
  have e1 := Lib.size_eq a
  have e2 := Lib.size_eq b
  apply ByteArray.ext
  exact Array.toList_inj.1 (numB_inj a.size a.data.toList b.data.toList (by omega) (by omega) h2 h4 h)
theorem lit_numU {l : List ByteArray} {a : ByteArray} (ha : litR l a = true) : numL a.data.toList < 2 ^ l.length := by
  obtain ⟨_, h1, _, _, _, _⟩ := lit_facts ha
  rw [h1]
  exact numL_lt _ _ (Lib.size_eq a).symm

/-! ### after spec_l1Num -/
theorem range_mul {α : Type} (p : Nat) (hp : 0 < p) (f : Nat → Nat → α) : ∀ P : Nat, (List.range (P * p)).map (fun n => f (n / p) (n % p)) = (List.range P).flatMap (fun m => (List.range p).map (f m)) := by
  intro P
  induction P with
  | zero => simp
  | succ P ih =>
    rw [Nat.succ_mul, List.range_add, List.map_append, ih, List.range_succ, List.flatMap_append]
    congr 1
    simp only [List.map_map, List.flatMap_cons, List.flatMap_nil, List.append_nil]
    apply List.map_congr_left
    intro d hd
    have hd := List.mem_range.1 hd
    simp only [Function.comp]
    rw [Nat.mul_comm, Nat.mul_add_div hp, Nat.mul_add_mod, Nat.div_eq_of_lt hd, Nat.mod_eq_of_lt hd, Nat.add_zero]
def digS (d : Nat) : ByteArray := strOfNums [48 + (d : Int)]
def stR : List Int → Nat → ByteArray
  | [], _ => ⟨#[]⟩
  | p :: r, n => stR r (n / p.toNat) ++ digS (n % p.toNat)
def stepT (p : Int) (l : List ByteArray) : List ByteArray := l.flatMap fun s => (List.range p.toNat).map fun d => s ++ digS d
def textsR : List Int → List ByteArray
  | [] => [⟨#[]⟩]
  | p :: r => stepT p (textsR r)
def prodN : List Int → Nat
  | [] => 1
  | p :: r => prodN r * p.toNat
theorem textsR_eq : ∀ r : List Int, (∀ p ∈ r, 2 ≤ p ∧ p ≤ 5) → textsR r = (List.range (prodN r)).map (stR r)
  | [], _ => rfl
  | p :: r, h => by
    have hp := h p List.mem_cons_self
    have hp' : 0 < p.toNat := by omega
    unfold textsR prodN stepT
    rw [textsR_eq r (fun q hq => h q (List.mem_cons_of_mem _ hq)), List.flatMap_map]
    exact (range_mul p.toNat hp' (fun m d => stR r m ++ digS d) (prodN r)).symm
theorem digS_size (d : Nat) : (digS d).size = 1 := rfl
theorem stR_size : ∀ (r : List Int) (n : Nat), (stR r n).size = r.length
  | [], _ => rfl
  | p :: r, n => by
    unfold stR
    rw [ByteArray.size_append, stR_size r, digS_size]; rfl
theorem prodN_le : ∀ r : List Int, (∀ p ∈ r, 2 ≤ p ∧ p ≤ 5) → prodN r ≤ 5 ^ r.length
  | [], _ => Nat.le_refl _
  | p :: r, h => by
    have hp := h p List.mem_cons_self
    unfold prodN
    rw [List.length_cons, Nat.pow_succ]
    exact Nat.mul_le_mul (prodN_le r (fun q hq => h q (List.mem_cons_of_mem _ hq))) (by omega)
theorem l1Num_ev (d : Nat) (hd : d < 10) : Ev (fun k => spec_l1Num.f k (d : Int)) (digS d) := by
  refine ⟨1, fun k hk => ?_⟩
  obtain ⟨k, rfl⟩ : ∃ m, k = m + 1 := ⟨k - 1, by omega⟩
  have e : (wrap64 (48 + (d : Int))) % 256 = 48 + (d : Int) := by rw [w64 (by omega) (by omega)]; omega
  show spec_l1Num.f (k + 1) (d : Int) = _
  rw [spec_l1Num.f, if_pos (by omega), e]; rfl

/-! ### after spec_laNext -/
theorem lit_bitsS {l : List ByteArray} {x : ByteArray} (h : litR l x = true) : bitsS l.length (numL x.data.toList) = x := by
  have ha : areLampsB l = true := (lit_facts h).1
  exact numS_injU (lit_bits ha _) h (by rw [bitsS_list, bitsL_num _ _ (lit_numU h)])
theorem lit_mem {l : List ByteArray} {x : ByteArray} (h : litR l x = true) : x ∈ allS l.length := List.mem_map.2 ⟨numL x.data.toList, List.mem_range.2 (lit_numU h), lit_bitsS h⟩
theorem mem_lit {l : List ByteArray} (h : areLampsB l = true) {x : ByteArray} (hx : x ∈ allS l.length) : litR l x = true := by
  obtain ⟨j, _, rfl⟩ := List.mem_map.1 hx
  exact lit_bits h j
theorem allS_nodup (n : Nat) : (allS n).Nodup := by
  unfold allS
  rw [List.Nodup, List.pairwise_iff_getElem]
  intro i j hi hj hij e
  simp only [List.length_map, List.length_range] at hi hj
  rw [List.getElem_map, List.getElem_map, List.getElem_range, List.getElem_range] at e
  have e2 := congrArg (fun s : ByteArray => numL s.data.toList) e
  simp only [bitsS_list, bitsL_num _ _ hi, bitsL_num _ _ hj] at e2
  omega
theorem allS_at (n i : Nat) (h : i < (allS n).length) : (allS n)[i] = bitsS n i := by simp [allS]
theorem allS_closed {l : List ByteArray} (h : areLampsB l = true) : ∀ x ∈ allS l.length, tickS l x ∈ allS l.length := fun x hx => lit_mem (lit_tick (mem_lit h hx))
/-- The sizes of the cycles, in the order in which they are found; the rows that tell them. -/
def sizesR (l : List ByteArray) : List Nat := szG (tickS l) 1100 (allS l.length) []
def cyclesR (l : List ByteArray) : List (List Int) × Bool := if areLampsB l = true then (cycR (2 ^ l.length) (fun s => (sizesR l).count s), true) else ([], false)
theorem implCycles_eq (l : List ByteArray) : impl_CyclesOfLamps.f l = some (cyclesR l) := by
  unfold impl_CyclesOfLamps.f cyclesR
  by_cases h : areLampsB l = true
  · have hn := (lamps_facts h).2.1
    rw [if_pos h, if_pos h, textStates_at hn, Option.bind_some, if_pos ⟨allS_length _, List.all_eq_true.2 (fun x hx => mem_lit h hx), allS_nodup _, List.all_eq_true.2 (fun x hx => decide_eq_true (allS_closed h x hx))⟩, allS_length]
    rfl
  · rw [if_neg h, if_neg h]

/-! ### after impl_CyclesOfLamps -/
theorem next_num {l : List ByteArray} {x : ByteArray} (h : litR l x = true) : rd (nextL l) (numL x.data.toList : Int) = (numL (tickS l x).data.toList : Int) := by
  rw [nextL_at l _ (lit_numU h), lit_bitsS h]
/-- Who came to the states first: those of this walk, those of the walks before, none. -/
def seenOK (l : List ByteArray) (seen : List Int) (D W : List ByteArray) (i : Nat) : Prop :=
  seen.length = 2 ^ l.length ∧ ∀ x, litR l x = true → (x ∈ W → rd seen (numL x.data.toList : Int) = ((i + 1 : Nat) : Int)) ∧ (x ∉ W → x ∈ D → 0 < rd seen (numL x.data.toList : Int) ∧ rd seen (numL x.data.toList : Int) ≤ (i : Int)) ∧ (x ∉ W → x ∉ D → rd seen (numL x.data.toList : Int) = 0)
theorem rd_set (s : List Int) (i j : Nat) (v : Int) (hi : i < s.length) : rd (s.set i v) (j : Int) = if i = j then v else rd s (j : Int) := by
  unfold rd
  by_cases c : i = j
  · subst c; simp [hi]
  · simp [c, List.getElem?_set_ne c]
theorem seen_mark {l : List ByteArray} {seen : List Int} {D W : List ByteArray} {i : Nat} (h : seenOK l seen D W i) {t : ByteArray} (ht : litR l t = true) : seenOK l (seen.set (numL t.data.toList) ((i + 1 : Nat) : Int)) D (W ++ [t]) i := by
  obtain ⟨hl, hs⟩ := h
  have hn := lit_numU ht
  refine ⟨by simpa using hl, fun x hx => ?_⟩
  obtain ⟨a, b, c⟩ := hs x hx
  rw [rd_set _ _ _ _ (by omega)]
  by_cases e : x = t
  · subst e
    rw [if_pos rfl]
    exact ⟨fun _ => rfl, fun h => absurd (by simp) h, fun h => absurd (by simp) h⟩
  · rw [if_neg (fun q => e (numS_injU hx ht q.symm))]
    have hm : x ∈ W ++ [t] ↔ x ∈ W := by simp [e]
    rw [hm]
    exact ⟨a, b, c⟩
theorem cyc_l1 {l : List ByteArray} (hl : areLampsB l = true) (cs : List Int) (D : List ByteArray) (i : Nat) (hi : i < 2 ^ l.length) (R : List (List Int) × Bool) : ∀ (g : Nat) (W : List ByteArray) (t : ByteArray) (seen : List Int), seenOK l seen D W i → (D ++ W).Nodup → (∀ x ∈ D ++ W, x ∈ allS l.length) → litR l t = true → 2 ^ l.length < (D ++ W).length + g →
    (∀ seen', seenOK l seen' D (W ++ (walkG (tickS l) g (D ++ W) t).1) i → Ev (fun k => spec_CyclesOfLamps.l1 k (nextL l) seen' cs (i : Int) (numL (walkG (tickS l) g (D ++ W) t).2.data.toList : Int) ((2 ^ l.length : Nat) : Int) (i : Int)) R) →
    Ev (fun k => spec_CyclesOfLamps.l1 k (nextL l) seen cs (i : Int) (numL t.data.toList : Int) ((2 ^ l.length : Nat) : Int) (i : Int)) R := by
  have h2 := two10 (lamps_facts hl).2.1
  intro g
  induction g with
  | zero =>
    intro W t seen hs hn hu ht hlen _
    have := nodup_len _ _ hn hu
    rw [allS_length] at this
    omega
  | succ g ih =>
    intro W t seen hs hn hu ht hlen hfin
    rw [walkG] at hfin
    by_cases c : t ∈ D ++ W
    · rw [if_pos c, List.append_nil] at hfin
      exact hfin seen hs
    · rw [if_neg c] at hfin
      have ht0 := (hs.2 t ht).2.2 (fun h => c (List.mem_append_right _ h)) (fun h => c (List.mem_append_left _ h))
      have hnt := lit_numU ht
      have hsl := hs.1
      refine Ev.next ⟨0, fun k _ => ?_⟩ (ih (W ++ [t]) (tickS l t) _ (seen_mark hs ht) ?_ ?_ (lit_tick ht) ?_ ?_)
      · rw [spec_CyclesOfLamps.l1, if_pos (by omega), if_pos (by omega), if_pos ht0, if_pos (by rw [nextL_length]; omega), next_num ht, Int.toNat_natCast, w64 (by omega) (by omega)]
        rfl
      · rw [← List.append_assoc, List.nodup_append]
        exact ⟨hn, by simp, fun a ha b hb e => c (by rw [List.mem_singleton] at hb; rw [← hb, ← e]; exact ha)⟩
      · intro x hx
        rw [← List.append_assoc] at hx
        rcases List.mem_append.1 hx with hx | hx
        · exact hu x hx
        · rw [List.mem_singleton] at hx; rw [hx]; exact lit_mem ht
      · simp only [List.length_append, List.length_singleton] at hlen ⊢
        omega
      · intro seen' hs'
        rw [← List.append_assoc] at hs' ⊢
        have e : (W ++ [t]) ++ (walkG (tickS l) g (D ++ W ++ [t]) (tickS l t)).1 = W ++ t :: (walkG (tickS l) g (D ++ W ++ [t]) (tickS l t)).1 := by simp
        rw [e] at hs'
        exact hfin seen' hs'
theorem cyc_l2 {l : List ByteArray} (hl : areLampsB l = true) (seen : List Int) (SZ : List Nat) (hz : SZ.length ≤ 1024) {x : ByteArray} (hx : litR l x = true) (c : Nat) (hp : perB (tickS l) c x = true) (hc : c ≤ 2 ^ l.length) (i : Nat) (hi : i < 2 ^ l.length) (R : List (List Int) × Bool)
    (hfin : Ev (fun k => spec_CyclesOfLamps.l0 k (nextL l) seen (cntL (2 ^ l.length) (SZ ++ [c])) ((2 ^ l.length : Nat) : Int) ((i + 1 : Nat) : Int)) R) : ∀ (d j : Nat), 0 < j → j + d = c →
    Ev (fun k => spec_CyclesOfLamps.l2 k (nextL l) seen (cntL (2 ^ l.length) SZ) (numL x.data.toList : Int) (j : Int) (numL (itF (tickS l) j x).data.toList : Int) ((2 ^ l.length : Nat) : Int) (i : Int)) R := by
  have h2 := two10 (lamps_facts hl).2.1
  obtain ⟨p0, p1, p2⟩ := perB_iff.1 hp
  have hlit : ∀ j, litR l (itF (tickS l) j x) = true := by
    intro j
    induction j with
    | zero => exact hx
    | succ j ih => rw [itF_succ]; exact lit_tick ih
  intro d
  induction d with
  | zero =>
    intro j h0 hj
    obtain rfl : j = c := by omega
    refine Ev.next ⟨0, fun k _ => ?_⟩ hfin
    have hcl := cntL_length (2 ^ l.length) SZ
    have hcc : List.count j SZ ≤ 1024 := Nat.le_trans List.count_le_length hz
    rw [spec_CyclesOfLamps.l2, if_pos (by rw [p1]), if_pos (by omega), if_pos (by omega), cntL_rd _ _ _ hc, Int.toNat_natCast, w64 (by omega) (by omega), w64 (by omega) (by omega), cntL_step _ _ _ hc]
    rfl
  | succ d ih =>
    intro j h0 hj
    have hne := p2 j h0 (by omega)
    refine Ev.next ⟨0, fun k _ => ?_⟩ (ih (j + 1) (by omega) (by omega))
    rw [spec_CyclesOfLamps.l2, if_neg (fun e => hne (numS_injU (hlit j) hx (by omega))), if_pos (by omega), if_pos (by rw [nextL_length]; have := lit_numU (hlit j); omega), next_num (hlit j), ← itF_succ (tickS l), w64 (by omega) (by omega)]
    rfl
theorem cyc_l3 (N : Nat) (hN : N ≤ 1024) (SZ : List Nat) : ∀ (d m : Nat), m + d = N + 1 →
    Ev (fun k => spec_CyclesOfLamps.l3 k (rowsP (fun s => SZ.count s) m) (cntL N SZ) ((N + 1 : Nat) : Int) (m : Int)) (cycR N (fun s => SZ.count s), true) := by
  intro d
  induction d with
  | zero =>
    intro m hm
    obtain rfl : m = N + 1 := by omega
    exact Ev.last fun k => by rw [spec_CyclesOfLamps.l3, if_neg (by omega)]; rfl
  | succ d ih =>
    intro m hm
    have hl := rowsP_length (fun s => SZ.count s) m
    have hst := rowsP_step (fun s => SZ.count s) m
    refine Ev.next ⟨0, fun k _ => ?_⟩ (ih (m + 1) (by omega))
    have hcl := cntL_length N SZ
    rw [spec_CyclesOfLamps.l3, if_pos (by omega), if_pos (by omega), if_pos (by omega), cntL_rd _ _ _ (by omega), hst, w64 (by omega) (by omega)]
    by_cases c : 0 < List.count m SZ
    · rw [if_pos (by omega), if_pos (by omega), if_pos c]
      rfl
    · rw [if_neg (by omega), if_neg c]
      rfl
theorem cyc_l0 {l : List ByteArray} (hl : areLampsB l = true) : ∀ (d i : Nat) (seen : List Int), i + d = 2 ^ l.length → seenOK l seen (doneG (tickS l) 1100 ((allS l.length).take i) []) [] i →
    Ev (fun k => spec_CyclesOfLamps.l0 k (nextL l) seen (cntL (2 ^ l.length) (szG (tickS l) 1100 ((allS l.length).take i) [])) ((2 ^ l.length : Nat) : Int) (i : Int)) (cyclesR l) := by
  have h2 := two10 (lamps_facts hl).2.1
  have hR : cyclesR l = (cycR (2 ^ l.length) (fun s => (sizesR l).count s), true) := by unfold cyclesR; rw [if_pos hl]
  intro d
  induction d with
  | zero =>
    intro i seen hi hs
    have e : (allS l.length).take i = allS l.length := List.take_of_length_le (by rw [allS_length]; omega)
    rw [e, hR]
    refine Ev.next ⟨0, fun k _ => ?_⟩ (cyc_l3 (2 ^ l.length) h2 (sizesR l) (2 ^ l.length + 1) 0 (by omega))
    rw [spec_CyclesOfLamps.l0, if_neg (by omega), cntL_length]
    rfl
  | succ d ih =>
    intro i seen hi hs
    have hil : i < (allS l.length).length := by rw [allS_length]; omega
    have hcl := allS_closed hl
    have hf : (allS l.length).length < 1100 := by rw [allS_length]; omega
    obtain ⟨_, dn, ds, _, _⟩ := sz_count hcl hf 0 ((allS l.length).take i) [] (fun x hx => List.mem_of_mem_take hx) (by simp) (by simp) (by simp)
    have hzl := szG_len (tickS l) 1100 ((allS l.length).take i) []
    have htk : (allS l.length).take (i + 1) = (allS l.length).take i ++ [bitsS l.length i] := by rw [List.take_succ_eq_append_getElem hil, allS_at]
    have hsr : bitsS l.length i ∈ allS l.length := lit_mem (lit_bits hl i)
    have hlit := lit_bits hl i
    have hnum : numL (bitsS l.length i).data.toList = i := by rw [bitsS_list, bitsL_num _ _ (by rw [allS_length] at hil; exact hil)]
    have hih := ih (i + 1)
    rw [htk, doneG_snoc, szG_snoc] at hih
    generalize doneG (tickS l) 1100 ((allS l.length).take i) [] = D at dn ds hs hih
    generalize szG (tickS l) 1100 ((allS l.length).take i) [] = SZ at hzl hih ⊢
    have hSZ : SZ.length ≤ 1024 := by rw [List.length_take, allS_length] at hzl; omega
    obtain ⟨f1, f2, f3, f4, f5, f6⟩ := walkG_facts hcl 1100 D (bitsS l.length i) dn ds hsr (by omega)
    have hi2 : i < 2 ^ l.length := by omega
    refine Ev.next (f := fun k => spec_CyclesOfLamps.l1 k (nextL l) seen (cntL (2 ^ l.length) SZ) (i : Int) (numL (bitsS l.length i).data.toList : Int) ((2 ^ l.length : Nat) : Int) (i : Int)) ⟨0, fun k _ => ?_⟩ (cyc_l1 hl (cntL (2 ^ l.length) SZ) D i hi2 (cyclesR l) 1100 [] (bitsS l.length i) seen hs (by rw [List.append_nil]; exact dn) (by rw [List.append_nil]; exact ds) hlit (by rw [List.append_nil]; omega) ?_)
    · rw [spec_CyclesOfLamps.l0, if_pos (by omega), hnum]
    · intro seen' hs'
      rw [List.append_nil, List.nil_append] at hs'
      rw [List.append_nil]
      have hs2 : seenOK l seen' (D ++ (walkG (tickS l) 1100 D (bitsS l.length i)).1) [] (i + 1) := by
        refine ⟨hs'.1, fun x hx => ⟨fun h => absurd h (by simp), fun _ hxd => ?_, fun _ hxd => ?_⟩⟩
        · obtain ⟨a, b, _⟩ := hs'.2 x hx
          by_cases c : x ∈ (walkG (tickS l) 1100 D (bitsS l.length i)).1
          · rw [a c]; omega
          · have := b c ((List.mem_append.1 hxd).resolve_right c)
            omega
        · exact (hs'.2 x hx).2.2 (fun h => hxd (List.mem_append_right _ h)) (fun h => hxd (List.mem_append_left _ h))
      have hnext := hih seen' (by omega) hs2
      have hc1 : (walkG (tickS l) 1100 D (bitsS l.length i)).2 ∈ (walkG (tickS l) 1100 D (bitsS l.length i)).1 → closeG (walkG (tickS l) 1100 D (bitsS l.length i)) = [(walkG (tickS l) 1100 D (bitsS l.length i)).1.length - (walkG (tickS l) 1100 D (bitsS l.length i)).1.findIdx (fun x => decide (x = (walkG (tickS l) 1100 D (bitsS l.length i)).2))] := fun c => if_pos c
      have hc2 : (walkG (tickS l) 1100 D (bitsS l.length i)).2 ∉ (walkG (tickS l) 1100 D (bitsS l.length i)).1 → closeG (walkG (tickS l) 1100 D (bitsS l.length i)) = [] := fun c => if_neg c
      have hper := walk_per (List.nodup_append.1 f1).2.1 f4 f5
      have hlen := nodup_len _ _ (List.nodup_append.1 f1).2.1 f2
      rw [allS_length] at hlen
      have hend : litR l (walkG (tickS l) 1100 D (bitsS l.length i)).2 = true := by
        rcases List.mem_append.1 f3 with h | h
        · exact mem_lit hl (ds _ h)
        · exact mem_lit hl (f2 _ h)
      generalize walkG (tickS l) 1100 D (bitsS l.length i) = r at f1 f2 f3 hs' hs2 hnext hc1 hc2 hper hlen hend ⊢
      have hne := lit_numU hend
      have hsl := hs'.1
      by_cases c : r.2 ∈ r.1
      · rw [hc1 c] at hnext
        have hp := hper c
        have hj : r.1.findIdx (fun x => decide (x = r.2)) < r.1.length := List.findIdx_lt_length.2 ⟨r.2, c, by simp⟩
        have h3 := cyc_l2 hl seen' SZ hSZ hend _ hp (by omega) i hi2 (cyclesR l) hnext (r.1.length - r.1.findIdx (fun x => decide (x = r.2)) - 1) 1 (by omega) (by omega)
        have hv := (hs'.2 _ hend).1 c
        refine Ev.next ⟨0, fun k _ => ?_⟩ h3
        rw [spec_CyclesOfLamps.l1, if_pos (by omega), if_pos (by omega), if_neg (by omega), if_pos (by rw [hv, w64 (by omega) (by omega)]; rfl), if_pos (by rw [nextL_length]; omega), next_num hend]
        rfl
      · rw [hc2 c, List.append_nil] at hnext
        have hd : r.2 ∈ D := (List.mem_append.1 f3).resolve_right c
        have hv := (hs'.2 _ hend).2.1 c hd
        refine Ev.next ⟨0, fun k _ => ?_⟩ hnext
        rw [spec_CyclesOfLamps.l1, if_pos (by omega), if_pos (by omega), if_neg (by omega), if_neg (by rw [w64 (by omega) (by omega)]; omega), w64 (by omega) (by omega)]
        rfl
theorem specCycles_ev (l : List ByteArray) : Ev (fun k => spec_CyclesOfLamps.f k l) (cyclesR l) := by
  by_cases h : areLampsB l = true
  · have h2 := two10 (lamps_facts h).2.1
    obtain ⟨K1, h1⟩ := laNext_ev h
    have hs : seenOK l (List.replicate (2 ^ l.length) 0) (doneG (tickS l) 1100 ((allS l.length).take 0) []) [] 0 := by
      refine ⟨by simp, fun x hx => ⟨fun q => absurd q (by simp), fun _ q => absurd q (by simp [doneG]), fun _ _ => ?_⟩⟩
      have := lit_numU hx
      simp [rd, this]
    obtain ⟨K2, h3⟩ := cyc_l0 h (2 ^ l.length) 0 (List.replicate (2 ^ l.length) 0) (by omega) hs
    refine ⟨K1 + K2, fun k hk => ?_⟩
    have h1 := h1 k (by omega)
    have h3 := h3 k (by omega)
    simp only at h1 h3
    have e0 : szG (tickS l) 1100 ((allS l.length).take 0) [] = [] := rfl
    rw [e0, cntL_nil] at h3
    dsimp only
    have hq : ∀ q : Nat, q ≤ 1024 → wrap64 ((q : Int) + 1) = ((q + 1 : Nat) : Int) := fun q hq => by rw [w64 (by omega) (by omega)]; rfl
    have ew : wrap64 (((nextL l).length : Int) + 1) = ((2 ^ l.length + 1 : Nat) : Int) := by rw [nextL_length]; exact hq _ h2
    rw [spec_CyclesOfLamps.f, spec_laGood.f, h, Option.bind_some, if_pos rfl, h1, Option.bind_some, if_pos (Int.natCast_nonneg _), if_pos (by rw [Int.toNat_natCast, nextL_length]; omega), if_pos (show (0 : Int) ≤ wrap64 (((nextL l).length : Int) + 1) by rw [ew]; exact Int.natCast_nonneg _), if_pos (show (wrap64 (((nextL l).length : Int) + 1)).toNat ≤ 35184372088832 by rw [ew, Int.toNat_natCast]; omega)]
    have ew2 := hq _ h2
    simp only [nextL_length, ew2, Int.toNat_natCast]
    exact h3
  · have hf : areLampsB l = false := by simpa using h
    exact ⟨0, fun k _ => by simp [spec_CyclesOfLamps.f, spec_laGood.f, cyclesR, hf]⟩

/-! ### after laws_eqIntS -/
theorem eqIntSS_ev (l : List (List Int)) (hl : l.length ≤ 9223372036854775806) (hs : ∀ x ∈ l, x.length ≤ 9223372036854775806) : Ev (fun k => laws_eqIntSS.f k l l) true := by
  have key : ∀ (d i : Nat), i + d = l.length → Ev (fun k => laws_eqIntSS.l0 k l l (i : Int)) true := by
    intro d
    induction d with
    | zero => intro i hi; exact Ev.last fun k => by rw [laws_eqIntSS.l0, if_neg (by omega)]
    | succ d ih =>
      intro i hi
      have hil : i < l.length := by omega
      have e : rd_L6 l (i : Int) = l[i] := by simp [rd_L6, hil]
      obtain ⟨K, hK⟩ := laws_eqIntS.ev (rd_L6 l (i : Int)) (by rw [e]; have := hs _ (List.getElem_mem hil); omega)
      refine Ev.next ⟨K, fun k hk => ?_⟩ (ih (i + 1) (by omega))
      have hK := hK k hk
      simp only at hK
      rw [laws_eqIntSS.l0, if_pos (by omega), if_pos (by omega), if_pos (by omega), hK, Option.bind_some, if_pos rfl, w64 (by omega) (by omega)]
      rfl
  obtain ⟨K, hK⟩ := key l.length 0 (by omega)
  exact ⟨K, fun k hk => by simp only [laws_eqIntSS.f, if_true]; exact hK k hk⟩

/-! ### after laws_markIntS -/
/-- A row of two, marked. -/
def two2 (a : Int) : List Int := marks (fun a : Int => a) 1 2 a
theorem markIntSS_l0 : ∀ (q p : List (List Int)) (a : Int), (∀ x ∈ q, x.length = 2) → 0 ≤ a → a + 2 * q.length ≤ 1000000 → (p ++ q).length ≤ 1000000 →
    Ev (fun k => laws_markIntSS.l0 k (p ++ q) a (p.length : Int)) (a + 2 * q.length, p ++ marks two2 2 q.length a)
  | [], p, a, _, h0, hB, hl => by
    refine Ev.last fun k => ?_
    rw [laws_markIntSS.l0, List.append_nil, if_neg (by omega)]
    simp [marks]
  | x :: q, p, a, hs, h0, hB, hl => by
    have hx := hs x List.mem_cons_self
    simp only [List.length_append, List.length_cons] at hB hl
    obtain ⟨K, hK⟩ := laws_markIntS.ev x a h0 (by rw [hx]; omega)
    have ih := markIntSS_l0 q (p ++ [two2 a]) (a + 2) (fun y hy => hs y (List.mem_cons_of_mem _ hy)) (by omega) (by omega) (by simp only [List.length_append, List.length_singleton]; omega)
    rw [List.length_append, List.length_singleton] at ih
    have e1 : (p ++ x :: q).getD p.length [] = x := by simp
    have e2 : (p ++ x :: q).set p.length (two2 a) = (p ++ [two2 a]) ++ q := by rw [List.set_append_right _ _ (Nat.le_refl _)]; simp
    have e3 : a + 2 * (((x :: q).length : Nat) : Int) = a + 2 + 2 * (q.length : Int) := by rw [List.length_cons]; omega
    have e4 : p ++ marks two2 2 (x :: q).length a = (p ++ [two2 a]) ++ marks two2 2 q.length (a + 2) := by rw [List.length_cons, marks]; simp
    rw [e3, e4]
    refine Ev.next ⟨K, fun k hk => ?_⟩ ih
    have hK := hK k hk
    simp only at hK
    rw [hx] at hK
    rw [laws_markIntSS.l0, if_pos (by simp only [List.length_append, List.length_cons]; omega), if_pos (by omega), Int.toNat_natCast, e1, hK, Option.bind_some, w64 (by omega) (by omega)]
    show laws_markIntSS.l0 k ((p ++ x :: q).set p.length (two2 a)) (a + 1 * ((2 : Nat) : Int)) _ = _
    rw [e2]
    rfl
theorem markIntSS_ev (l : List (List Int)) (hs : ∀ x ∈ l, x.length = 2) (hl : l.length ≤ 2000) : Ev (fun k => laws_markIntSS.f k l 1) (1 + 2 * (l.length : Int), marks two2 2 l.length 1) := by
  have := markIntSS_l0 l [] 1 hs (by omega) (by omega) (by simpa using (by omega : l.length ≤ 1000000))
  simpa [laws_markIntSS.f] using this

/-! ### after laws_markIntSS -/
theorem heldIntSS_ev (n : Nat) (hn : n ≤ 2000) : Ev (fun k => laws_heldIntSS.f k (marks two2 2 n 1) 1) (1 + 2 * (n : Int)) := by
  unfold laws_heldIntSS.f
  refine held_ev laws_heldIntSS.l0 two2 2 1000000 ?_ ?_ n 1 (by omega) (by omega) (by omega)
  · intro l a i h h0 hB hl hv
    obtain ⟨K, hK⟩ := laws_heldIntS.ev 2 a h0 (by omega)
    refine ⟨K, fun k hk => ?_⟩
    have hK := hK k hk
    simp only at hK
    have e : rd_L6 l (i : Int) = marks (fun a : Int => a) 1 2 a := by
      have : rd_L6 l (i : Int) = l[i] := by simp [rd_L6, h]
      rw [this, hv]
      rfl
    have ew : wrap64 ((i : Int) + 1) = ((i + 1 : Nat) : Int) := by rw [w64 (by omega) (by omega)]; omega
    rw [laws_heldIntSS.l0, if_pos (by omega), if_pos (by omega), e, hK, Option.bind_some, if_neg (by omega), ew]
    rfl
  · intro k l a
    rw [laws_heldIntSS.l0, if_neg (by omega)]

end Go.Proofs.YtafkcmohbgcknaaDoor.PCyc
