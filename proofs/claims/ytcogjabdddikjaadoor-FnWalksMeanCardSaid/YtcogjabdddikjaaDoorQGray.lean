/- States of rings and their reflected numbers, as plain lists of bytes (ring 0 first). No condition beyond each law's own. -/
import Derived.Test.YtcogjabdddikjaaDoorQState
namespace Go.Proofs.YtcogjabdddikjaaDoor
set_option linter.unusedVariables false
set_option linter.unusedSimpArgs false
/-- The number of a state. -/
def grN : List UInt8 → Nat
  | [] => 0
  | b :: t => 2 * grN t + (b.toNat + grN t) % 2
/-- The state of so many rings with a number. -/
def grS : Nat → Nat → List UInt8
  | 0, _ => []
  | L + 1, n => (if (n + n / 2) % 2 = 1 then 49 else 48) :: grS L (n / 2)
theorem grS_length : ∀ (L n : Nat), (grS L n).length = L
  | 0, _ => rfl
  | L + 1, n => by rw [grS, List.length_cons, grS_length L]
theorem grS_all : ∀ (L n : Nat), (grS L n).all isBit = true
  | 0, _ => rfl
  | L + 1, n => by
    rw [grS, List.all_cons, grS_all L]
    split <;> rfl
theorem grN_lt : ∀ s : List UInt8, grN s < 2 ^ s.length
  | [] => by simp [grN]
  | b :: t => by
    have := grN_lt t
    rw [grN, List.length_cons, Nat.pow_succ]
    omega
theorem grN_grS : ∀ (L n : Nat), n < 2 ^ L → grN (grS L n) = n
  | 0, n, h => by rw [Nat.pow_zero] at h; rw [grS, grN]; omega
  | L + 1, n, h => by
    rw [Nat.pow_succ] at h
    rw [grS, grN, grN_grS L (n / 2) (by omega)]
    split
    · show 2 * (n / 2) + (49 + n / 2) % 2 = n; omega
    · show 2 * (n / 2) + (48 + n / 2) % 2 = n; omega
theorem bit_cases {b : UInt8} (h : isBit b = true) : b = 48 ∨ b = 49 := by simpa [isBit] using h
theorem grS_grN : ∀ s : List UInt8, s.all isBit = true → grS s.length (grN s) = s
  | [], _ => rfl
  | b :: t, h => by
    rw [List.all_cons, Bool.and_eq_true] at h
    have ih := grS_grN t h.2
    have e : grN (b :: t) = 2 * grN t + (b.toNat + grN t) % 2 := rfl
    have e1 : grN (b :: t) / 2 = grN t := by omega
    rw [List.length_cons, grS, e1, ih]
    rcases bit_cases h.1 with rfl | rfl
    · rw [if_neg (by have : (48 : UInt8).toNat = 48 := rfl; omega)]
    · rw [if_pos (by have : (49 : UInt8).toNat = 49 := rfl; omega)]
theorem grN_inj {s t : List UInt8} (hs : s.all isBit = true) (ht : t.all isBit = true) (hl : s.length = t.length) (h : grN s = grN t) : s = t := by
  rw [← grS_grN s hs, ← grS_grN t ht, hl, h]
/-- May a ring be moved? -/
def canL : List UInt8 → Nat → Bool
  | _, 0 => true
  | [], _ => false
  | b :: t, 1 => b == 49 && !t.isEmpty
  | b :: t, k + 2 => b == 48 && canL t (k + 1)
/-- A state with a ring moved. -/
def flipL : List UInt8 → Nat → List UInt8
  | [], _ => []
  | b :: t, 0 => (97 - b) :: t
  | b :: t, k + 1 => b :: flipL t k
theorem flipL_length : ∀ (s : List UInt8) (k : Nat), (flipL s k).length = s.length
  | [], _ => rfl
  | b :: t, 0 => rfl
  | b :: t, k + 1 => by rw [flipL, List.length_cons, flipL_length t k, List.length_cons]
theorem flipL_all : ∀ (s : List UInt8) (k : Nat), s.all isBit = true → (flipL s k).all isBit = true
  | [], _, h => h
  | b :: t, 0, h => by
    rw [List.all_cons, Bool.and_eq_true] at h
    rw [flipL, List.all_cons, h.2]
    rcases bit_cases h.1 with rfl | rfl <;> rfl
  | b :: t, k + 1, h => by
    rw [List.all_cons, Bool.and_eq_true] at h
    rw [flipL, List.all_cons, h.1, flipL_all t k h.2]; rfl
theorem flipL_set : ∀ (s : List UInt8) (k : Nat) (h : k < s.length), flipL s k = s.set k (97 - s[k])
  | [], _, h => absurd h (by simp)
  | b :: t, 0, _ => rfl
  | b :: t, k + 1, h => by
    rw [List.length_cons] at h
    rw [flipL, flipL_set t k (by omega)]
    rfl
theorem canL_lt : ∀ (s : List UInt8) (k : Nat), s ≠ [] → canL s k = true → k < s.length
  | [], _, h, _ => absurd rfl h
  | b :: t, 0, _, _ => by simp
  | b :: t, 1, _, h => by
    cases t with
    | nil => simp [canL] at h
    | cons c t => simp
  | b :: t, k + 2, _, h => by
    rw [canL, Bool.and_eq_true] at h
    cases t with
    | nil => simp [canL] at h
    | cons c t => have := canL_lt (c :: t) (k + 1) (by simp) h.2; simp at this ⊢; omega
theorem grN_flip0 {s : List UInt8} (hs : s.all isBit = true) (h0 : s ≠ []) : grN (flipL s 0) = if grN s % 2 = 0 then grN s + 1 else grN s - 1 := by
  cases s with
  | nil => exact absurd rfl h0
  | cons b t =>
    rw [List.all_cons, Bool.and_eq_true] at hs
    rw [flipL, grN, grN]
    rcases bit_cases hs.1 with rfl | rfl
    · show 2 * grN t + (49 + grN t) % 2 = if (2 * grN t + (48 + grN t) % 2) % 2 = 0 then 2 * grN t + (48 + grN t) % 2 + 1 else 2 * grN t + (48 + grN t) % 2 - 1
      split <;> omega
    · show 2 * grN t + (48 + grN t) % 2 = if (2 * grN t + (49 + grN t) % 2) % 2 = 0 then 2 * grN t + (49 + grN t) % 2 + 1 else 2 * grN t + (49 + grN t) % 2 - 1
      split <;> omega
theorem grN_flipK : ∀ (s : List UInt8) (k : Nat), s.all isBit = true → canL s (k + 1) = true →
    (grN s % 2 = 1 ∧ grN (flipL s (k + 1)) = grN s + 1) ∨ (grN s % 2 = 0 ∧ grN (flipL s (k + 1)) + 1 = grN s)
  | [], _, _, h => by simp [canL] at h
  | b :: t, 0, hs, h => by
    rw [canL, Bool.and_eq_true, beq_iff_eq] at h
    rw [List.all_cons, Bool.and_eq_true] at hs
    obtain ⟨rfl, ht⟩ := h
    have ht : t ≠ [] := by intro e; subst e; simp at ht
    have h0 := grN_flip0 hs.2 ht
    rw [flipL, grN, grN, h0]
    show _ ∧ 2 * _ + (49 + _) % 2 = 2 * grN t + (49 + grN t) % 2 + 1 ∨ _ ∧ 2 * _ + (49 + _) % 2 + 1 = 2 * grN t + (49 + grN t) % 2
    have e49 : (49 : UInt8).toNat = 49 := rfl
    rw [e49]
    split <;> omega
  | b :: t, k + 1, hs, h => by
    rw [canL, Bool.and_eq_true, beq_iff_eq] at h
    rw [List.all_cons, Bool.and_eq_true] at hs
    obtain ⟨rfl, hc⟩ := h
    have ih := grN_flipK t k hs.2 hc
    have e48 : (48 : UInt8).toNat = 48 := rfl
    rw [flipL, grN, grN, e48]
    omega
theorem canL_one : ∀ (s : List UInt8) (j k : Nat), canL s (j + 1) = true → canL s (k + 1) = true → j = k
  | [], _, _, h, _ => by simp [canL] at h
  | b :: t, 0, 0, _, _ => rfl
  | b :: t, 0, k + 1, h, h' => by
    have h1 : b = 49 := by have := h; simp only [canL, Bool.and_eq_true, beq_iff_eq] at this; exact this.1
    have h2 : b = 48 := by have := h'; simp only [canL, Bool.and_eq_true, beq_iff_eq] at this; exact this.1
    rw [h1] at h2; exact absurd h2 (by decide)
  | b :: t, k + 1, 0, h, h' => by
    have h1 : b = 48 := by have := h; simp only [canL, Bool.and_eq_true, beq_iff_eq] at this; exact this.1
    have h2 : b = 49 := by have := h'; simp only [canL, Bool.and_eq_true, beq_iff_eq] at this; exact this.1
    rw [h1] at h2; exact absurd h2 (by decide)
  | b :: t, j + 1, k + 1, h, h' => by
    rw [canL, Bool.and_eq_true] at h h'
    rw [canL_one t j k h.2 h'.2]
theorem canL_ex : ∀ (s : List UInt8), s.all isBit = true → s ≠ [] → ((∃ k, canL s (k + 1) = true) ↔ 0 < grN s ∧ grN s + 1 < 2 ^ s.length)
  | [], _, h => absurd rfl h
  | b :: t, hs, _ => by
    rw [List.all_cons, Bool.and_eq_true] at hs
    have hlt := grN_lt t
    have e48 : (48 : UInt8).toNat = 48 := rfl
    have e49 : (49 : UInt8).toNat = 49 := rfl
    rw [List.length_cons, Nat.pow_succ, grN]
    cases t with
    | nil =>
      have hn : ¬ ∃ k, canL [b] (k + 1) = true := by
        rintro ⟨k, hk⟩
        cases k with
        | zero => simp [canL] at hk
        | succ k => simp [canL] at hk
      constructor
      · intro h; exact absurd h hn
      · intro h
        simp only [grN, List.length_nil, Nat.pow_zero] at h
        omega
    | cons c t =>
      have hp : 2 ^ (c :: t).length = 2 * 2 ^ t.length := by rw [List.length_cons, Nat.pow_succ, Nat.mul_comm]
      rcases bit_cases hs.1 with rfl | rfl
      · have ih := canL_ex (c :: t) hs.2 (by simp)
        have e : (∃ k, canL (48 :: c :: t) (k + 1) = true) ↔ ∃ k, canL (c :: t) (k + 1) = true := by
          constructor
          · rintro ⟨k, hk⟩
            cases k with
            | zero => simp [canL] at hk
            | succ k => exact ⟨k, by rw [canL, Bool.and_eq_true] at hk; exact hk.2⟩
          · rintro ⟨k, hk⟩
            exact ⟨k + 1, by rw [canL, hk]; rfl⟩
        rw [e, ih, e48]
        omega
      · constructor
        · intro _
          rw [e49]
          omega
        · intro _
          exact ⟨0, rfl⟩
/-- The rings that can be moved. -/
def movesL (s : List UInt8) : List Nat := (List.range s.length).filter (canL s)
theorem filter_range_one (p : Nat → Bool) (k : Nat) (hp : p k = true) : ∀ n, k < n → (∀ j, j < n → p j = true → j = k) → (List.range n).filter p = [k] := by
  intro n
  induction n with
  | zero => intro h; omega
  | succ n ih =>
    intro hk hu
    rw [List.range_succ, List.filter_append]
    rcases Nat.lt_or_ge k n with c | c
    · rw [ih c (fun j hj => hu j (by omega))]
      have : p n = false := by
        cases h : p n with
        | false => rfl
        | true => have := hu n (by omega) h; omega
      simp [this]
    · obtain rfl : k = n := by omega
      have : (List.range k).filter p = [] := by
        rw [List.filter_eq_nil_iff]
        intro j hj h
        have := hu j (by have := List.mem_range.1 hj; omega) h
        have := List.mem_range.1 hj
        omega
      simp [this, hp]
theorem movesL_cons (s : List UInt8) (h0 : s ≠ []) : movesL s = 0 :: (List.range s.length).filter (fun k => decide (0 < k) && canL s k) := by
  unfold movesL
  obtain ⟨n, hn⟩ : ∃ n, s.length = n + 1 := ⟨s.length - 1, by have := List.length_pos_iff.2 h0; omega⟩
  rw [hn, List.range_succ_eq_map, List.filter_cons, List.filter_cons]
  have e0 : canL s 0 = true := by cases s <;> rfl
  rw [if_pos e0, if_neg (by simp)]
  congr 1
  rw [List.filter_map, List.filter_map]
  congr 1
/-- In the middle two rings can be moved, and they lead to the two neighbours. -/
theorem moves_two {s : List UInt8} (hs : s.all isBit = true) (h0 : s ≠ []) (h1 : 0 < grN s) (h2 : grN s + 1 < 2 ^ s.length) :
    ∃ k, 0 < k ∧ k < s.length ∧ movesL s = [0, k] ∧ canL s k = true ∧ ((grN (flipL s 0) = grN s + 1 ∧ grN (flipL s k) + 1 = grN s) ∨ (grN (flipL s 0) + 1 = grN s ∧ grN (flipL s k) = grN s + 1)) := by
  obtain ⟨k, hk⟩ := (canL_ex s hs h0).2 ⟨h1, h2⟩
  have hlt := canL_lt s (k + 1) h0 hk
  refine ⟨k + 1, by omega, hlt, ?_, hk, ?_⟩
  · rw [movesL_cons s h0, filter_range_one _ (k + 1) (by simp [hk]) _ hlt]
    intro j hj h
    simp only [Bool.and_eq_true, decide_eq_true_eq] at h
    obtain ⟨i, rfl⟩ : ∃ i, j = i + 1 := ⟨j - 1, by omega⟩
    rw [canL_one s i k h.2 hk]
  · have e0 := grN_flip0 hs h0
    have ek := grN_flipK s k hs hk
    rw [e0]
    split <;> omega
/-- At an end one ring can be moved. -/
theorem moves_one {s : List UInt8} (hs : s.all isBit = true) (h0 : s ≠ []) (h1 : grN s = 0 ∨ grN s + 1 = 2 ^ s.length) :
    movesL s = [0] ∧ ((grN s = 0 ∧ grN (flipL s 0) = 1) ∨ (0 < grN s ∧ grN (flipL s 0) + 1 = grN s)) := by
  constructor
  · rw [movesL_cons s h0]
    congr 1
    rw [List.filter_eq_nil_iff]
    intro j _ h
    simp only [Bool.and_eq_true, decide_eq_true_eq] at h
    obtain ⟨i, rfl⟩ : ∃ i, j = i + 1 := ⟨j - 1, by omega⟩
    have := (canL_ex s hs h0).1 ⟨i, h.2⟩
    omega
  · have e0 := grN_flip0 hs h0
    have hp : 2 ^ s.length % 2 = 0 := by
      cases s with
      | nil => exact absurd rfl h0
      | cons b t => rw [List.length_cons, Nat.pow_succ]; omega
    have hpos : 0 < 2 ^ s.length := Nat.pow_pos (by omega)
    rw [e0]
    split <;> omega
end Go.Proofs.YtcogjabdddikjaaDoor
