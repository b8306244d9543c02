/- States as texts of signs 0, 1: counting, trimming, all states of few rings. No program in sight. -/
import Derived.Test.YtpdkjehplfgjcabGreatDoorQLib
import Derived.Test.YtpdkjehplfgjcabGreatDoorQEv
import Derived.Lib.SlTrimSet
import Derived.Lib.Strings
import Derived.Lib.OthersKept
import Derived.Lib.ConvBytes
namespace Go.Proofs.YtpdkjehplfgjcabGreatDoor
open Go.RowKit Go.Proofs.YtpdkjehplfgjcabGreatDoorW.PrintWords Go.Proofs.YtpdkjehplfgjcabGreatDoorW.PrintLast Go.Proofs.YtpdkjehplfgjcabGreatDoorW.PrintMore
set_option linter.unusedVariables false
set_option linter.unusedSimpArgs false
def isBit (b : UInt8) : Bool := b == 48 || b == 49
/-- A text is a state: 1 to 20 signs 0, 1. -/
def stateB (s : ByteArray) : Bool := inB (s.size : Int) 1 20 && s.data.toList.all isBit
theorem bt_nat (s : ByteArray) (i : Nat) (h : i < s.data.toList.length) : bt s (i : Int) = ((s.data.toList[i]).toNat : Int) := by
  have h' : i < s.size := by rw [Lib.size_eq]; exact h
  have := bt_at s (i : Int) (by simpa using h')
  rw [← this]
  simp
  rfl
theorem byte_toInt (b : UInt8) (n : Nat) (hn : n < 256) : ((b.toNat : Int) = n) = (b = UInt8.ofNat n) := by
  apply propext
  constructor
  · intro h
    apply UInt8.toNat_inj.mp
    rw [UInt8.toNat_ofNat']
    omega
  · intro h
    subst h
    rw [UInt8.toNat_ofNat']
    omega
theorem dropWhile_nil {α : Type} (p : α → Bool) (l : List α) : (l.dropWhile p = []) ↔ l.all p = true := by
  induction l with
  | nil => simp
  | cons a l ih =>
    cases h : p a
    · simp [h]
    · simp [h, ih]
theorem trimS_nil (l cs : List UInt8) : (Lib.trimS l cs = []) ↔ l.all (cs.contains ·) = true := by
  unfold Lib.trimS Lib.trimLeftS Lib.trimRightS
  rw [dropWhile_nil]
  constructor
  · intro h
    by_cases hq : l.reverse.dropWhile (cs.contains ·) = []
    · have := (dropWhile_nil _ _).1 hq
      simpa using this
    · obtain ⟨b, r, hr⟩ := List.exists_cons_of_ne_nil hq
      have hn := List.head_dropWhile_not (cs.contains ·) hq
      have hm : (l.reverse.dropWhile (cs.contains ·)).head hq ∈ (l.reverse.dropWhile (cs.contains ·)).reverse := by
        rw [List.mem_reverse]; exact List.head_mem hq
      have := List.all_eq_true.1 h _ hm
      rw [this] at hn
      cases hn
  · intro h
    have : l.reverse.dropWhile (cs.contains ·) = [] := (dropWhile_nil _ _).2 (by simpa using h)
    rw [this]; rfl
theorem trimS_beq (l cs : List UInt8) : ((⟨(Lib.trimS l cs).toArray⟩ : ByteArray).toList == ([] : List UInt8)) = l.all (cs.contains ·) := by
  have e : ((⟨(Lib.trimS l cs).toArray⟩ : ByteArray).toList == ([] : List UInt8)) = (Lib.trimS l cs).isEmpty := by
    rw [ByteArray.toList_eq]
    cases h : Lib.trimS l cs with
    | nil => rfl
    | cons a r => rfl
  rw [e]
  have := trimS_nil l cs
  cases h : l.all (cs.contains ·)
  · rw [h] at this
    cases hq : Lib.trimS l cs with
    | nil => exact absurd (this.1 hq) (by simp)
    | cons a r => rfl
  · rw [h] at this
    rw [this.2 rfl]; rfl
theorem isBit_contains (b : UInt8) : ([48, 49] : List UInt8).contains b = isBit b := by
  simp [List.contains, List.elem, isBit]
  cases (b == 48) <;> cases (b == 49) <;> rfl
def onN (s : ByteArray) : Nat := s.data.toList.count 49
def canB (s : ByteArray) (a : Int) : Bool := decide (a = 0) || inB a 1 ((s.size : Int) - 1) && decide (bt s (a - 1) = 49) && decide ((s.data.toList.take (a - 1).toNat).count 49 = 0)
theorem extract_toNat (s : ByteArray) (n : Nat) : (s.extract 0 n).data.toList = s.data.toList.take n := by
  rw [Lib.extract_data]; simp
/-- All states of so many rings. -/
def allS : Nat → List (List UInt8)
  | 0 => [[]]
  | n + 1 => (allS n).flatMap fun l => [48 :: l, 49 :: l]
theorem mem_allS : ∀ (l : List UInt8), l.all isBit = true → l ∈ allS l.length
  | [], _ => by simp [allS]
  | b :: l, h => by
    simp only [List.all_cons, Bool.and_eq_true] at h
    have := mem_allS l h.2
    simp only [isBit, Bool.or_eq_true, beq_iff_eq] at h
    simp only [List.length_cons, allS, List.mem_flatMap]
    refine ⟨l, this, ?_⟩
    rcases h.1 with rfl | rfl <;> simp
theorem stateB_bits {s : ByteArray} (h : stateB s = true) : s.data.toList.all isBit = true := by unfold stateB at h; simp only [Bool.and_eq_true] at h; exact h.2
theorem shl_le (r : Int) (h : 1 ≤ r) (h' : r ≤ 7) : wrap64 (shl .i64 1 r - 1) ≤ 127 := by
  have : r = 1 ∨ r = 2 ∨ r = 3 ∨ r = 4 ∨ r = 5 ∨ r = 6 ∨ r = 7 := by omega
  rcases this with rfl | rfl | rfl | rfl | rfl | rfl | rfl <;> decide +kernel
def okArg (r k a : Int) : Prop := if k = 0 ∨ k = 4 then 0 ≤ a ∧ a < r else if k = 2 then 2 ≤ a ∧ a ≤ 9 else if k = 3 then 0 ≤ a ∧ a ≤ 127 else True
theorem okArg_of {r k a b : Int} (h1 : 1 ≤ r) (h7 : r ≤ 7) (h : clueB r k a b = true) : okArg r k a ∧ 0 ≤ k ∧ k ≤ 4 ∧ (k = 1 → b = 0) := by
  unfold clueB at h
  unfold okArg
  have e : wrap64 (r - 1) = r - 1 := w64 (by omega) (by omega)
  have e2 := shl_le r h1 h7
  by_cases c0 : k = 0 ∨ k = 4
  · rw [if_pos c0] at h ⊢
    simp only [Bool.and_eq_true, e] at h
    have := inB_lo h.1
    have := inB_hi h.1
    omega
  · rw [if_neg c0] at h ⊢
    by_cases c1 : k = 1
    · rw [if_pos c1] at h
      simp only [Bool.and_eq_true, beq_iff_eq] at h
      subst c1
      exact ⟨by simp, by omega, by omega, fun _ => h.2⟩
    · rw [if_neg c1] at h
      by_cases c2 : k = 2
      · rw [if_pos c2] at h ⊢
        simp only [Bool.and_eq_true] at h
        have := inB_lo h.1
        have := inB_hi h.1
        omega
      · rw [if_neg c2] at h ⊢
        by_cases c3 : k = 3
        · rw [if_pos c3] at h ⊢
          simp only [Bool.and_eq_true] at h
          have := inB_lo h.1
          have := inB_hi h.1
          omega
        · rw [if_neg c3] at h
          cases h
def hiddenB (s : ByteArray) : Bool := stateB s && decide (s.size ≤ 7)
section
variable {w : World} {K m n : Nat} {e : TypeId} {f : Nat → UInt8}
end
theorem below_setCell {B : Nat} {a w : World} (h : Below B a w) (K j : Nat) (v : Value) (hK : B ≤ K) : Below B a (w.setCell ⟨K, j, none⟩ v) :=
  h.trans ⟨rfl, rfl, rfl, by simp [World.setCell], fun i hi => by simp [World.setCell, Array.getElem?_modify]; omega⟩
theorem str_snoc (T : List UInt8) (c : UInt8) : (⟨T.toArray⟩ : ByteArray) ++ (⟨#[c]⟩ : ByteArray) = ⟨(T ++ [c]).toArray⟩ := by
  apply ByteArray.ext
  simp
/-- A row of the call's own stays where an iterator is moved on. -/
theorem R_iter {α : Type} {d : Kd α} {e base K p p' : Nat} {ok : Nat → Prop} {w : World} {v : Value} {xs : List α} {s : ByteArray} (h : d.R e w base ok v xs) (hk : w.heap[K]? = some (.stringIter s p)) : d.R e (w.iterAt K s p') base ok v xs :=
  Kd.R_mono (Kd.R_step (Kd.R_bound h) (fun k ho _ => Lib.iterAt_other w K k s p' (by
    obtain ⟨_, _, _, q, _, cells, hc⟩ := ho
    rintro rfl
    rw [hk] at hc
    cases hc))) (fun k hk => hk.1)
end Go.Proofs.YtpdkjehplfgjcabGreatDoor
