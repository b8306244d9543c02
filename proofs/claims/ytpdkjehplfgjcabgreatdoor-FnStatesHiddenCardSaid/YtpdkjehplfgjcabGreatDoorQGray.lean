/- States of rings and their reflected numbers, as plain lists of bytes (ring 0 first). No condition beyond each law's own. -/
import Derived.Test.YtpdkjehplfgjcabGreatDoorQState
namespace Go.Proofs.YtpdkjehplfgjcabGreatDoor
set_option linter.unusedVariables false
set_option linter.unusedSimpArgs false
/-- The number of a state. -/
def grN : List UInt8 → Nat
  | [] => 0
  | b :: t => 2 * grN t + (b.toNat + grN t) % 2
/-- The state of so many rings with a number. -/
def grS : Nat → Nat → List UInt8
  | 0, _ => []
  | L + 1, n => (if (n + n / 2) % 2 = 1 then 49 else 48) :: grS L (n / 2)
theorem grS_length : ∀ (L n : Nat), (grS L n).length = L
  | 0, _ => rfl
  | L + 1, n => by rw [grS, List.length_cons, grS_length L]
theorem grS_all : ∀ (L n : Nat), (grS L n).all isBit = true
  | 0, _ => rfl
  | L + 1, n => by
    rw [grS, List.all_cons, grS_all L]
    split <;> rfl
theorem grN_lt : ∀ s : List UInt8, grN s < 2 ^ s.length
  | [] => by simp [grN]
  | b :: t => by
    have := grN_lt t
    rw [grN, List.length_cons, Nat.pow_succ]
    omega
theorem bit_cases {b : UInt8} (h : isBit b = true) : b = 48 ∨ b = 49 := by simpa [isBit] using h
theorem grS_grN : ∀ s : List UInt8, s.all isBit = true → grS s.length (grN s) = s
  | [], _ => rfl
  | b :: t, h => by
    rw [List.all_cons, Bool.and_eq_true] at h
    have ih := grS_grN t h.2
    have e : grN (b :: t) = 2 * grN t + (b.toNat + grN t) % 2 := rfl
    have e1 : grN (b :: t) / 2 = grN t := by omega
    rw [List.length_cons, grS, e1, ih]
    rcases bit_cases h.1 with rfl | rfl
    · rw [if_neg (by have : (48 : UInt8).toNat = 48 := rfl; omega)]
    · rw [if_pos (by have : (49 : UInt8).toNat = 49 := rfl; omega)]
/-- May a ring be moved? -/
def canL : List UInt8 → Nat → Bool
  | _, 0 => true
  | [], _ => false
  | b :: t, 1 => b == 49 && !t.isEmpty
  | b :: t, k + 2 => b == 48 && canL t (k + 1)
/-- The rings that can be moved. -/
def movesL (s : List UInt8) : List Nat := (List.range s.length).filter (canL s)
end Go.Proofs.YtpdkjehplfgjcabGreatDoor
