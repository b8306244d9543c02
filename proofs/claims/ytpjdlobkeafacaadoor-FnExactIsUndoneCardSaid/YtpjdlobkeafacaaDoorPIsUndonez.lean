/- What the printed functions answer, function by function: plain statements, without memory. (wip/after) -/
import Derived.Test.YtpjdlobkeafacaaDoorPIsUndonex
import Derived.Test.YtpjdlobkeafacaaDoorEv
import Derived.Test.YtpjdlobkeafacaaDoorState
namespace Go.Proofs.YtpjdlobkeafacaaDoor.PIsUndone
open Go.RowKit Go.Proofs.YtpjdlobkeafacaaDoorW.PrintWords Go.Proofs.YtpjdlobkeafacaaDoorW.PrintLast Go.Proofs.YtpjdlobkeafacaaDoorW.PrintMore
set_option linter.unusedVariables false
set_option linter.unusedSimpArgs false
/-! ### after laws_eqStringS -/
theorem laws_eqStringS.ev (l : List ByteArray) (hl : l.length ≤ 9223372036854775807) : Ev (fun k => laws_eqStringS.f k l l) true := by
  unfold laws_eqStringS.f
  refine Ev.congr (f := fun k => laws_eqStringS.l0 k l l 0) (fun k => if_pos rfl) ?_
  refine eq_ev laws_eqStringS.l0 ?_ ?_ l hl
  · intro l i h hl
    refine ⟨0, fun k _ => ?_⟩
    have ew : wrap64 ((i : Int) + 1) = ((i + 1 : Nat) : Int) := by rw [w64 (by omega) (by omega)]; omega
    rw [laws_eqStringS.l0, if_pos (by omega), if_pos (by omega), if_pos (by omega)]
    simp [ew]
  · intro k l
    rw [laws_eqStringS.l0, if_neg (by omega)]

/-! ### after laws_szStringS -/
theorem szStringS_l0 : ∀ (n i : Nat) (l : List ByteArray) (a : Int), i + n = l.length → 0 ≤ a → a ≤ 1048576 → l.length ≤ 9223372036854775807 → (∀ s ∈ l, s.size ≤ 9223372036854775807) →
    ∃ v : Int, Ev (fun k => laws_szStringS.l0 k l a (i : Int)) v ∧ v ≤ a ∧ (0 ≤ v → ∀ s ∈ l.drop i, (s.size : Int) ≤ 1048576) := by
  intro n
  induction n with
  | zero =>
    intro i l a hi h0 h1 hl hs
    refine ⟨a, Ev.last fun k => ?_, by omega, fun _ s hs' => ?_⟩
    · rw [laws_szStringS.l0, if_neg (by omega)]
    · rw [List.drop_of_length_le (by omega)] at hs'; cases hs'
  | succ n ih =>
    intro i l a hi h0 h1 hl hs
    have hlt : i < l.length := by omega
    have hsz := hs l[i] (List.getElem_mem hlt)
    have er : rdOf ByteArray.empty l (i : Int) = l[i] := by simp [rdOf, hlt]
    have ew : wrap64 ((i : Int) + 1) = ((i + 1 : Nat) : Int) := by rw [w64 (by omega) (by omega)]; omega
    have ea : wrap64 (a - l[i].size) = a - l[i].size := w64 (by omega) (by omega)
    by_cases c : a - (l[i].size : Int) < 0
    · refine ⟨-1, Ev.next (f := fun _ => some (-1)) ⟨0, fun k _ => ?_⟩ (Ev.now _), by omega, fun h => by omega⟩
      rw [laws_szStringS.l0, if_pos (by omega), if_pos (by omega)]
      simp only [er, ea]
      rw [if_pos c]
    · obtain ⟨v, hv, hva, hvs⟩ := ih (i + 1) l (a - l[i].size) (by omega) (by omega) (by omega) hl hs
      refine ⟨v, Ev.next ⟨0, fun k _ => ?_⟩ hv, by omega, fun h s hs' => ?_⟩
      · rw [laws_szStringS.l0, if_pos (by omega), if_pos (by omega)]
        simp only [er, ea]
        rw [if_neg c, ew]
      · rw [List.drop_eq_getElem_cons hlt, List.mem_cons] at hs'
        rcases hs' with rfl | h'
        · omega
        · exact hvs h s h'
theorem laws_szStringS.ev (l : List ByteArray) (hl : l.length ≤ 9223372036854775807) (hs : ∀ s ∈ l, s.size ≤ 9223372036854775807) :
    ∃ v : Int, Ev (fun k => laws_szStringS.f k l 1048576) v ∧ (0 ≤ v → l.length ≤ 1048576 ∧ ∀ s ∈ l, s.size ≤ 1048576) := by
  have ea : wrap64 (1048576 - (l.length : Int)) = 1048576 - (l.length : Int) := w64 (by omega) (by omega)
  by_cases c : 1048576 - (l.length : Int) < 0
  · refine ⟨-1, Ev.same (f := fun _ => some (-1)) ⟨0, fun k _ => ?_⟩ (Ev.now _), fun h => by omega⟩
    simp only [laws_szStringS.f, ea]
    rw [if_pos c]
  · obtain ⟨v, hv, _, hvs⟩ := szStringS_l0 l.length 0 l (1048576 - l.length) (by omega) (by omega) (by omega) hl hs
    refine ⟨v, Ev.same ⟨0, fun k _ => ?_⟩ hv, fun h => ⟨by omega, fun s h' => by have := hvs h s (by simpa using h'); omega⟩⟩
    simp only [laws_szStringS.f, ea]
    rw [if_neg c]
    rfl
theorem laws_szStringS.evA (l : List ByteArray) (a : Int) (h0 : 0 ≤ a) (h1 : a ≤ 1048576) (hl : l.length ≤ 9223372036854775807) (hs : ∀ s ∈ l, s.size ≤ 9223372036854775807) :
    ∃ v : Int, Ev (fun k => laws_szStringS.f k l a) v ∧ (0 ≤ v → l.length ≤ 1048576 ∧ ∀ s ∈ l, s.size ≤ 1048576) := by
  have ea : wrap64 (a - (l.length : Int)) = a - (l.length : Int) := w64 (by omega) (by omega)
  by_cases c : a - (l.length : Int) < 0
  · refine ⟨-1, Ev.same (f := fun _ => some (-1)) ⟨0, fun k _ => ?_⟩ (Ev.now _), fun h => by omega⟩
    simp only [laws_szStringS.f, ea]
    rw [if_pos c]
  · obtain ⟨v, hv, _, hvs⟩ := szStringS_l0 l.length 0 l (a - l.length) (by omega) (by omega) (by omega) hl hs
    refine ⟨v, Ev.same ⟨0, fun k _ => ?_⟩ hv, fun h => ⟨by omega, fun s h' => by have := hvs h s (by simpa using h'); omega⟩⟩
    simp only [laws_szStringS.f, ea]
    rw [if_neg c]
    rfl

/-! ### after laws_toStringS -/
theorem laws_toStringS.ev (l : List ByteArray) (hl : l.length ≤ 1048576) : Ev (fun k => laws_toStringS.f k l) l := by
  have h1 : 0 ≤ (l.length : Int) := by omega
  have h2 : (l.length : Int).toNat ≤ 17592186044416 := by omega
  unfold laws_toStringS.f
  simp only [if_pos h1, if_pos h2]
  have key : Ev (fun k => laws_toStringS.l0 k l (List.replicate (l.length : Int).toNat (⟨#[]⟩ : ByteArray)) 0) (l.map fun x => x) := to_ev laws_toStringS.l0 (fun x : ByteArray => x) (fun l acc i h hc hl => by
    refine ⟨0, fun k _ => ?_⟩
    have e : rdOf ByteArray.empty l (i : Int) = l[i] := by simp [rdOf, h]
    have ew : wrap64 ((i : Int) + 1) = ((i + 1 : Nat) : Int) := by rw [w64 (by omega) (by omega)]; omega
    rw [laws_toStringS.l0, if_pos (by omega), if_pos (by omega), if_pos (by omega), e, ew]
    rfl) (fun k l acc => by rw [laws_toStringS.l0, if_neg (by omega)]) l _ (by simp) (by omega)
  have e : (l.map fun x : ByteArray => x) = l := by simp
  rw [e] at key
  exact key

/-! ### after laws_szLamps -/
theorem szLamps_ev (l : List ByteArray) (hl : l.length ≤ 9223372036854775807) (hs : ∀ s ∈ l, s.size ≤ 9223372036854775807) :
    ∃ v : Int, Ev (fun k => laws_szLamps.f k l 1048576) v ∧ (0 ≤ v → l.length ≤ 1048576 ∧ ∀ s ∈ l, s.size ≤ 1048576) := by
  obtain ⟨v, ⟨K, hK⟩, h⟩ := laws_szStringS.ev l hl hs
  by_cases c : v < 0
  · exact ⟨-1, ⟨K, fun k hk => by simp only [laws_szLamps.f, hK k hk, Option.bind_some]; rw [if_pos c]⟩, fun h => by omega⟩
  · exact ⟨v, ⟨K, fun k hk => by simp only [laws_szLamps.f, hK k hk, Option.bind_some]; rw [if_neg c]⟩, h⟩

/-! ### after laws_toLamps -/
theorem toLamps_ev (l : List ByteArray) (hl : l.length ≤ 1048576) : Ev (fun k => laws_toLamps.f k l) l := by
  obtain ⟨K, hK⟩ := laws_toStringS.ev l hl
  exact ⟨K, fun k hk => by simp [laws_toLamps.f, hK k hk]⟩

/-! ### after laws_eqLamps -/
theorem eqLamps_ev (l : List ByteArray) (hl : l.length ≤ 9223372036854775807) : Ev (fun k => laws_eqLamps.f k l l) true := by
  obtain ⟨K, hK⟩ := laws_eqStringS.ev l hl
  exact ⟨K, fun k hk => by simp [laws_eqLamps.f, hK k hk]⟩

/-! ### after spec_laTick -/
theorem laTick_eq {l : List ByteArray} {s : ByteArray} (h : litR l s = true) : spec_laTick.f l s = some (tickS l s) := by
  obtain ⟨_, h1, _, h2, h3, h4⟩ := lit_facts h
  unfold spec_laTick.f
  rw [if_pos ⟨h1, by omega, h3, h4⟩]
  rfl

/-! ### after impl_Lamps_tick -/
theorem tick_eq {l : List ByteArray} {s : ByteArray} (h : litR l s = true) : impl_Lamps_tick.f l s = some (tickS l s) := by
  obtain ⟨_, h1, _, h2, h3, h4⟩ := lit_facts h
  unfold impl_Lamps_tick.f
  rw [if_pos ⟨h1, by omega, h3⟩]
  rfl

/-! ### after spec_laOf -/
/-- The state of so many lamps with a number. -/
def bitsL : Nat → Nat → List UInt8
  | 0, _ => []
  | k + 1, i => bitsL k (i / 2) ++ [if i % 2 = 1 then 49 else 48]
def bitsS (k i : Nat) : ByteArray := ⟨(bitsL k i).toArray⟩
theorem bitsL_length : ∀ (k i : Nat), (bitsL k i).length = k
  | 0, _ => rfl
  | k + 1, i => by rw [bitsL, List.length_append, bitsL_length k]; rfl
theorem bitsS_size (k i : Nat) : (bitsS k i).size = k := by
  show (bitsL k i).toArray.size = k
  rw [List.size_toArray, bitsL_length]
theorem bitsS_list (k i : Nat) : (bitsS k i).data.toList = bitsL k i := rfl
theorem bitsL_all : ∀ (k i : Nat), (bitsL k i).all isBit = true
  | 0, _ => rfl
  | k + 1, i => by
    rw [bitsL, List.all_append, bitsL_all k]
    split <;> decide
theorem bitsL_num : ∀ (k i : Nat), i < 2 ^ k → numL (bitsL k i) = i
  | 0, i, h => by
    have : i = 0 := by simpa using h
    subst this; rfl
  | k + 1, i, h => by
    rw [bitsL, numL_snoc, bitsL_num k (i / 2) (by rw [Nat.pow_succ] at h; omega)]
    by_cases c : i % 2 = 1
    · simp [c]; omega
    · simp [c]; omega
theorem bit_tab : ((List.range 1024).all fun i => (List.range 10).all fun x => decide (Go.bits .and .i64 (shr .i64 (i : Int) (x : Int)) 1 = ((i / 2 ^ x % 2 : Nat) : Int))) = true := by decide +kernel
theorem bit_at {i x : Nat} (hi : i < 1024) (hx : x < 10) : Go.bits .and .i64 (shr .i64 (i : Int) (x : Int)) 1 = ((i / 2 ^ x % 2 : Nat) : Int) := by
  have h1 := List.all_eq_true.1 bit_tab i (List.mem_range.2 hi)
  have h2 := List.all_eq_true.1 h1 x (List.mem_range.2 hx)
  simpa using h2
theorem num1 (k b : Nat) (hb : b < 2) : spec_l1Num.f (k + 1) (b : Int) = some ⟨#[if b = 1 then 49 else 48]⟩ := by
  have : b = 0 ∨ b = 1 := by omega
  rcases this with rfl | rfl <;> (rw [spec_l1Num.f, if_pos (by decide)]; decide +kernel)
theorem two10 {n : Nat} (h : n ≤ 10) : 2 ^ n ≤ 1024 := Nat.le_trans (Nat.pow_le_pow_right (by omega) h) (by decide)
theorem bitsS_snoc (k i : Nat) : bitsS k (i / 2) ++ ⟨#[if i % 2 = 1 then 49 else 48]⟩ = bitsS (k + 1) i := by
  unfold bitsS
  rw [str_snoc, bitsL]
theorem laOf_l0 {n i : Nat} (hn : n ≤ 10) (hi : i < 2 ^ n) : ∀ (m k : Nat), m ≤ n → spec_laOf.l0 (k + m + 2) (i : Int) (bitsS (n - m) (i / 2 ^ m)) ((m : Int) - 1) = some (bitsS n i)
  | 0, k, _ => by
    rw [show k + 0 + 2 = (k + 1) + 1 from rfl, spec_laOf.l0, if_neg (by omega)]
    simp
  | m + 1, k, h => by
    have h2 := two10 hn
    have e1 : ((m + 1 : Nat) : Int) - 1 = (m : Int) := by omega
    have e2 : n - m = (n - (m + 1)) + 1 := by omega
    have e3 : i / 2 ^ (m + 1) = i / 2 ^ m / 2 := by rw [Nat.pow_succ, Nat.div_div_eq_div_mul]
    rw [show k + (m + 1) + 2 = (k + m + 2) + 1 by omega, spec_laOf.l0, e1, if_pos (by omega), if_pos (by omega), bit_at (by omega) (by omega), show k + m + 2 = (k + m + 1) + 1 from rfl, num1 _ _ (by omega), Option.bind_some, e3, bitsS_size, if_pos (show n - (m + 1) + (⟨#[if i / 2 ^ m % 2 = 1 then 49 else 48]⟩ : ByteArray).size ≤ 9223372036854775807 from by show n - (m + 1) + 1 ≤ _; omega), bitsS_snoc, ← e2, w64 (by omega) (by omega)]
    exact laOf_l0 hn hi m k (by omega)
theorem laOf_at {n i : Nat} (hn : n ≤ 10) (hi : i < 2 ^ n) (k : Nat) (hk : 12 ≤ k) : spec_laOf.f k (n : Int) (i : Int) = some (bitsS n i) := by
  obtain ⟨k', rfl⟩ : ∃ k', k = k' + n + 2 := ⟨k - n - 2, by omega⟩
  have := laOf_l0 hn hi n k' (Nat.le_refl _)
  rw [Nat.sub_self] at this
  unfold spec_laOf.f
  rw [w64 (by omega) (by omega)]
  exact this

/-! ### after spec_laNext -/
theorem numB_inj : ∀ (n : Nat) (a b : List UInt8), a.length = n → b.length = n → a.all isBit = true → b.all isBit = true → numL a = numL b → a = b := by
  intro n
  induction n with
  | zero => intro a b ha hb _ _ _; rw [List.length_eq_zero_iff.1 ha, List.length_eq_zero_iff.1 hb]
  | succ n ih =>
    intro a b ha hb h1 h2 h
    rcases List.eq_nil_or_concat a with rfl | ⟨a', x, rfl⟩
    · cases ha
    rcases List.eq_nil_or_concat b with rfl | ⟨b', y, rfl⟩
    · cases hb
    simp only [List.concat_eq_append] at *
    rw [numL_snoc, numL_snoc] at h
    simp only [List.all_append, List.all_cons, List.all_nil, Bool.and_true, Bool.and_eq_true] at h1 h2
    have hx : x = 48 ∨ x = 49 := by simpa [isBit] using h1.2
    have hy : y = 48 ∨ y = 49 := by simpa [isBit] using h2.2
    have hl1 : a'.length = n := by simpa using ha
    have hl2 : b'.length = n := by simpa using hb
    rcases hx with rfl | rfl <;> rcases hy with rfl | rfl
    · rw [ih a' b' hl1 hl2 h1.1 h2.1 (by simp at h; omega)]
    · simp at h; omega
    · simp at h; omega
    · rw [ih a' b' hl1 hl2 h1.1 h2.1 (by simp at h; omega)]
theorem shlN {n : Nat} (h : n ≤ 10) : shl .i64 1 (n : Int) = ((2 ^ n : Nat) : Int) := by
  have : n = 0 ∨ n = 1 ∨ n = 2 ∨ n = 3 ∨ n = 4 ∨ n = 5 ∨ n = 6 ∨ n = 7 ∨ n = 8 ∨ n = 9 ∨ n = 10 := by omega
  rcases this with rfl | rfl | rfl | rfl | rfl | rfl | rfl | rfl | rfl | rfl | rfl <;> decide +kernel
theorem laNum_lit {l : List ByteArray} {s : ByteArray} (h : litR l s = true) : spec_laNumber.f s = some (numL s.data.toList : Int) := by
  obtain ⟨_, h1, _, h2, h3, h4⟩ := lit_facts h
  unfold spec_laNumber.f
  rw [if_pos ⟨by omega, h4⟩]
theorem lit_bits {l : List ByteArray} (h : areLampsB l = true) (j : Nat) : litR l (bitsS l.length j) = true := by
  rw [litR, h, litB_eq, bitsS_size, bitsS_list, bitsL_all]
  simp
/-- Lit states are the same if their numbers are. -/
theorem litNum_iff {l : List ByteArray} {a b : ByteArray} (ha : litR l a = true) (hb : litR l b = true) : (a.data.toList == b.data.toList) = decide ((numL a.data.toList : Int) = numL b.data.toList) := by
  obtain ⟨_, h1, _, _, _, h2⟩ := lit_facts ha
  obtain ⟨_, h3, _, _, _, h4⟩ := lit_facts hb
  have e1 := Lib.size_eq a
  have e2 := Lib.size_eq b
  rw [Bool.eq_iff_iff, beq_iff_eq, decide_eq_true_iff]
  exact ⟨fun h => by rw [h], fun h => numB_inj a.size _ _ (by omega) (by omega) h2 h4 (by omega)⟩
def nextL (l : List ByteArray) : List Int := (List.range (2 ^ l.length)).map fun j => (numL (tickS l (bitsS l.length j)).data.toList : Int)
theorem nextL_length (l : List ByteArray) : (nextL l).length = 2 ^ l.length := by simp [nextL]
theorem nextL_at (l : List ByteArray) (j : Nat) (h : j < 2 ^ l.length) : rd (nextL l) (j : Int) = (numL (tickS l (bitsS l.length j)).data.toList : Int) := by
  simp [rd, nextL, h]
theorem laNext_ev {l : List ByteArray} (h : areLampsB l = true) : Ev (fun k => spec_laNext.f k l) (nextL l) := by
  have hn := (lamps_facts h).2.1
  have h2 := two10 hn
  have key : ∀ (d i : Nat), i + d = 2 ^ l.length → Ev (fun k => spec_laNext.l0 k ((List.range i).map fun j => (numL (tickS l (bitsS l.length j)).data.toList : Int)) (i : Int) l) (nextL l) := by
    intro d
    induction d with
    | zero =>
      intro i hi
      obtain rfl : i = 2 ^ l.length := by omega
      exact Ev.last fun k => by rw [spec_laNext.l0, shlN hn, if_neg (by omega)]; rfl
    | succ d ih =>
      intro i hi
      refine Ev.next ⟨12, fun k hk => ?_⟩ (ih (i + 1) (by omega))
      rw [spec_laNext.l0, shlN hn, if_pos (by omega), laOf_at hn (by omega) k hk, Option.bind_some, laTick_eq (lit_bits h i), Option.bind_some, laNum_lit (lit_tick (lit_bits h i)), Option.bind_some, if_pos (by simp; omega), w64 (by omega) (by omega), List.range_succ, List.map_append]
      rfl
  exact key (2 ^ l.length) 0 (by omega)

/-! ### after impl_textStates -/
def allS (n : Nat) : List ByteArray := (List.range (2 ^ n)).map (bitsS n)
theorem allS_length (n : Nat) : (allS n).length = 2 ^ n := by simp [allS]
theorem ts_l1 {k : Nat} (hk : k ≤ 9) (x8 x9 : Int) : ∀ (m j F : Nat), j + m = 2 ^ k → impl_textStates.l1 (F + m + 1) ((List.range (2 * j)).map (bitsS (k + 1))) x8 x9 (allS k) ((allS k).length : Int) (j : Int) = impl_textStates.l0 F (allS (k + 1)) x8 (wrap64 (x9 + 1))
  | 0, j, F, h => by
    rw [Nat.add_zero, impl_textStates.l1, if_neg (by rw [allS_length]; omega), show 2 * j = 2 ^ (k + 1) by rw [Nat.pow_succ]; omega]
    rfl
  | m + 1, j, F, h => by
    have h2 := two10 (show k ≤ 10 by omega)
    have hj : j < 2 ^ k := by omega
    have er : rdOf ByteArray.empty (allS k) (j : Int) = bitsS k j := by simp [rdOf, allS, hj]
    have e0 : bitsS k j ++ (⟨#[48]⟩ : ByteArray) = bitsS (k + 1) (2 * j) := by
      have := bitsS_snoc k (2 * j)
      rwa [show 2 * j / 2 = j by omega, if_neg (by omega)] at this
    have e1 : bitsS k j ++ (⟨#[49]⟩ : ByteArray) = bitsS (k + 1) (2 * j + 1) := by
      have := bitsS_snoc k (2 * j + 1)
      rwa [show (2 * j + 1) / 2 = j by omega, if_pos (by omega)] at this
    have el : (List.range (2 * j)).map (bitsS (k + 1)) ++ [bitsS (k + 1) (2 * j), bitsS (k + 1) (2 * j + 1)] = (List.range (2 * (j + 1))).map (bitsS (k + 1)) := by
      rw [show 2 * (j + 1) = 2 * j + 1 + 1 by omega, List.range_succ, List.range_succ, List.map_append, List.map_append]
      simp
    rw [show F + (m + 1) + 1 = (F + m + 1) + 1 by omega, impl_textStates.l1, if_pos (by rw [allS_length]; omega), if_pos (by omega), if_pos (by rw [allS_length]; omega), er, if_pos (by rw [bitsS_size]; omega), Option.bind_some, if_pos (by simp; omega), e0, e1, el, w64 (by omega) (by omega)]
    exact ts_l1 hk x8 x9 m (j + 1) F (by omega)
theorem ts_l0 {n : Nat} (hn : n ≤ 10) : ∀ (m k F : Nat), k + m = n → 2 ^ n + 2 * m + 1 ≤ F + 2 ^ k → impl_textStates.l0 F (allS k) (n : Int) (k : Int) = some (allS n)
  | 0, k, F, h, hF => by
    obtain rfl : k = n := by omega
    obtain ⟨F, rfl⟩ : ∃ F', F = F' + 1 := ⟨F - 1, by omega⟩
    rw [impl_textStates.l0, if_neg (by omega)]
  | m + 1, k, F, h, hF => by
    have h2 : 2 ^ (k + 1) = 2 ^ k * 2 := Nat.pow_succ 2 k
    have h3 : 2 ^ (k + 1) ≤ 2 ^ n := Nat.pow_le_pow_right (by omega) (by omega)
    obtain ⟨F, rfl⟩ : ∃ F', F = F' + 2 ^ k + 1 + 1 := ⟨F - 2 ^ k - 2, by omega⟩
    rw [impl_textStates.l0, if_pos (by omega)]
    have := ts_l1 (show k ≤ 9 by omega) (n : Int) (k : Int) (2 ^ k) 0 F (by omega)
    rw [w64 (by omega) (by omega)] at this
    refine Eq.trans this ?_
    exact ts_l0 hn m (k + 1) F (by omega) (by omega)
theorem textStates_at {n : Nat} (hn : n ≤ 10) : impl_textStates.f 3000 (n : Int) = some (allS n) := by
  unfold impl_textStates.f
  have h2 := two10 hn
  exact ts_l0 hn n 0 3000 (by omega) (by omega)

/-! ### after spec_IsUndone -/
theorem numS_injU {l : List ByteArray} {a b : ByteArray} (ha : litR l a = true) (hb : litR l b = true) (h : numL a.data.toList = numL b.data.toList) : a = b := by
  obtain ⟨_, h1, _, _, _, h2⟩ := lit_facts ha
  obtain ⟨_, h3, _, _, _, h4⟩ := lit_facts hb
  have e1 := Lib.size_eq a
  have e2 := Lib.size_eq b
  apply ByteArray.ext
  exact Array.toList_inj.1 (numB_inj a.size a.data.toList b.data.toList (by omega) (by omega) h2 h4 h)
theorem lit_numU {l : List ByteArray} {a : ByteArray} (ha : litR l a = true) : numL a.data.toList < 2 ^ l.length := by
  obtain ⟨_, h1, _, _, _, _⟩ := lit_facts ha
  rw [h1]
  exact numL_lt _ _ (Lib.size_eq a).symm
/-- None of some texts has been before. -/
def freshB : List ByteArray → List ByteArray → Bool
  | _, [] => true
  | acc, s :: r => !decide (s ∈ acc) && freshB (acc ++ [s]) r
theorem foldl_addS_le : ∀ (m acc : List ByteArray), (m.foldl addS acc).length ≤ acc.length + m.length := by
  intro m
  induction m with
  | nil => intro acc; simp
  | cons a m ih =>
    intro acc
    have h1 := ih (addS acc a)
    have h2 := addS_length acc a
    simp only [List.foldl_cons, List.length_cons]
    omega
theorem fresh_iff : ∀ (m acc : List ByteArray), ((m.foldl addS acc).length = acc.length + m.length) = (freshB acc m = true) := by
  intro m
  induction m with
  | nil => intro acc; simp [freshB]
  | cons a m ih =>
    intro acc
    unfold freshB
    simp only [List.foldl_cons, List.length_cons]
    by_cases c : a ∈ acc
    · have e : addS acc a = acc := if_pos c
      have := foldl_addS_le m acc
      rw [e, decide_eq_true c]
      simp only [Bool.not_true, Bool.false_and, Bool.false_eq_true, eq_iff_iff, iff_false]
      omega
    · have e : addS acc a = acc ++ [a] := if_neg c
      have := ih (acc ++ [a])
      rw [List.length_append, List.length_singleton] at this
      rw [e, decide_eq_false c, Bool.not_false, Bool.true_and, ← this]
      exact propext ⟨fun h => by omega, fun h => by omega⟩
def undoneR (l : List ByteArray) : Bool × Bool := if areLampsB l = true then (freshB [] (((List.range (2 ^ l.length)).map (bitsS l.length)).map (tickS l)), true) else (false, false)
theorem specUndone_l0 {l : List ByteArray} (h : areLampsB l = true) : ∀ (m i : Nat) (acc : List ByteArray) (seen : List Bool), i + m = 2 ^ l.length → seen.length = 2 ^ l.length → (∀ x ∈ acc, litR l x = true) → (∀ x, litR l x = true → rdOf false seen (numL x.data.toList : Int) = decide (x ∈ acc)) →
    Ev (fun k => spec_IsUndone.l0 k seen (nextL l) ((nextL l).length : Int) (i : Int)) (freshB acc (((List.range' i m).map (bitsS l.length)).map (tickS l)), true) := by
  have hn := (lamps_facts h).2.1
  have h2 := two10 hn
  intro m
  induction m with
  | zero =>
    intro i acc seen hi hs _ _
    exact Ev.last fun k => by rw [spec_IsUndone.l0, nextL_length, if_neg (by omega)]; rfl
  | succ m ih =>
    intro i acc seen hi hs hacc hseen
    have hi' : i < 2 ^ l.length := by omega
    have hlt := lit_tick (lit_bits h i)
    have hnum := lit_numU hlt
    have hrd := hseen _ hlt
    rw [List.range'_succ, List.map_cons, List.map_cons, freshB]
    by_cases c : tickS l (bitsS l.length i) ∈ acc
    · rw [decide_eq_true c] at hrd
      refine Ev.last fun k => ?_
      rw [spec_IsUndone.l0, nextL_length, if_pos (by omega), if_pos (by omega), if_pos (by omega), nextL_at l i hi', if_pos (by omega), if_pos (by omega), hrd, if_pos rfl, decide_eq_true c]
      rfl
    · rw [decide_eq_false c] at hrd
      rw [decide_eq_false c, Bool.not_false, Bool.true_and]
      refine Ev.next ⟨0, fun k _ => ?_⟩ (ih (i + 1) (acc ++ [tickS l (bitsS l.length i)]) (seen.set (numL (tickS l (bitsS l.length i)).data.toList) true) (by omega) (by simpa using hs) ?_ ?_)
      · rw [spec_IsUndone.l0, nextL_length, if_pos (by omega), if_pos (by omega), if_pos (by omega), nextL_at l i hi', if_pos (by omega), if_pos (by omega), hrd, if_neg (by decide), Int.toNat_natCast, w64 (by omega) (by omega), Int.natCast_add]
        rfl
      · intro x hx
        rcases List.mem_append.1 hx with h' | h'
        · exact hacc x h'
        · simp at h'; subst h'; exact hlt
      · intro x hx
        have hxn := lit_numU hx
        by_cases hc : x = tickS l (bitsS l.length i)
        · subst hc
          have : numL (tickS l (bitsS l.length i)).data.toList < seen.length := by omega
          simp [rdOf, this]
        · have hne : numL (tickS l (bitsS l.length i)).data.toList ≠ numL x.data.toList := fun e => hc (numS_injU hx hlt e.symm)
          have h1 := hseen x hx
          have e1 : rdOf false (seen.set (numL (tickS l (bitsS l.length i)).data.toList) true) (numL x.data.toList : Int) = rdOf false seen (numL x.data.toList : Int) := by
            simp [rdOf, List.getElem?_set_ne hne, List.getD]
          rw [e1, h1]
          simp [hc]
theorem specUndone_ev (l : List ByteArray) : Ev (fun k => spec_IsUndone.f k l) (undoneR l) := by
  by_cases h : areLampsB l = true
  · have hn := (lamps_facts h).2.1
    have h2 := two10 hn
    obtain ⟨K1, h1⟩ := laNext_ev h
    obtain ⟨K2, h3⟩ := specUndone_l0 h (2 ^ l.length) 0 [] (List.replicate (2 ^ l.length) false) (by omega) (by simp) (fun x hx => by cases hx) (fun x hx => by
      have := lit_numU hx
      simp [rdOf, List.getD, this])
    refine ⟨K1 + K2, fun k hk => ?_⟩
    have h3 := h3 k (by omega)
    have h1 := h1 k (by omega)
    simp only at h1 h3
    simp only [spec_IsUndone.f, spec_laGood.f, h, Option.bind_some, if_true, shlN hn, h1, Int.toNat_natCast]
    rw [if_pos (Int.natCast_nonneg _), if_pos (Nat.le_trans h2 (by decide))]
    rw [undoneR, if_pos h, List.range_eq_range']
    exact h3
  · have hf : areLampsB l = false := by simpa using h
    exact ⟨0, fun k _ => by simp [spec_IsUndone.f, spec_laGood.f, undoneR, hf]⟩

/-! ### after impl_IsUndone -/
theorem implUndone_eq (l : List ByteArray) : impl_IsUndone.f l = some (undoneR l) := by
  unfold impl_IsUndone.f undoneR
  by_cases h : areLampsB l = true
  · have hn := (lamps_facts h).2.1
    have h2 := two10 hn
    have hall : ((allS l.length).all fun s => litR l s) = true := by
      rw [List.all_eq_true]
      intro x hx
      obtain ⟨j, _, rfl⟩ := List.mem_map.1 hx
      exact lit_bits h j
    rw [if_pos h, if_pos h, textStates_at hn, Option.bind_some, if_pos ⟨by rw [allS_length]; omega, hall⟩]
    have hf := fresh_iff ((allS l.length).map (tickS l)) []
    have e : (((undoneS l (allS l.length)).length : Int) == ((2 ^ l.length : Nat) : Int)) = freshB [] ((allS l.length).map (tickS l)) := by
      rw [Bool.eq_iff_iff, ← hf, beq_iff_eq]
      unfold undoneS
      rw [List.length_nil, List.length_map, allS_length]
      generalize 2 ^ l.length = q
      omega
    rw [e]
    rfl
  · rw [if_neg h, if_neg h]

end Go.Proofs.YtpjdlobkeafacaaDoor.PIsUndone
