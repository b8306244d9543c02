/- States as texts of signs 0, 1: counting, trimming, all states of few rings. No program in sight. -/
import Derived.Test.YtcogjabdddikjaaDoorQLib
import Derived.Test.YtcogjabdddikjaaDoorQEv
import Derived.Lib.SlTrimSet
import Derived.Lib.Strings
import Derived.Lib.OthersKept
import Derived.Lib.ConvBytes
namespace Go.Proofs.YtcogjabdddikjaaDoor
open Go.RowKit Go.Proofs.YtcogjabdddikjaaDoorW.PrintWords Go.Proofs.YtcogjabdddikjaaDoorW.PrintLast Go.Proofs.YtcogjabdddikjaaDoorW.PrintMore
set_option linter.unusedVariables false
set_option linter.unusedSimpArgs false
def isBit (b : UInt8) : Bool := b == 48 || b == 49
/-- A text is a state: 1 to 20 signs 0, 1. -/
def stateB (s : ByteArray) : Bool := inB (s.size : Int) 1 20 && s.data.toList.all isBit
theorem bt_nat (s : ByteArray) (i : Nat) (h : i < s.data.toList.length) : bt s (i : Int) = ((s.data.toList[i]).toNat : Int) := by
  have h' : i < s.size := by rw [Lib.size_eq]; exact h
  have := bt_at s (i : Int) (by simpa using h')
  rw [← this]
  simp
  rfl
theorem byte_toInt (b : UInt8) (n : Nat) (hn : n < 256) : ((b.toNat : Int) = n) = (b = UInt8.ofNat n) := by
  apply propext
  constructor
  · intro h
    apply UInt8.toNat_inj.mp
    rw [UInt8.toNat_ofNat']
    omega
  · intro h
    subst h
    rw [UInt8.toNat_ofNat']
    omega
theorem dropWhile_nil {α : Type} (p : α → Bool) (l : List α) : (l.dropWhile p = []) ↔ l.all p = true := by
  induction l with
  | nil => simp
  | cons a l ih =>
    cases h : p a
    · simp [h]
    · simp [h, ih]
theorem trimS_nil (l cs : List UInt8) : (Lib.trimS l cs = []) ↔ l.all (cs.contains ·) = true := by
  unfold Lib.trimS Lib.trimLeftS Lib.trimRightS
  rw [dropWhile_nil]
  constructor
  · intro h
    by_cases hq : l.reverse.dropWhile (cs.contains ·) = []
    · have := (dropWhile_nil _ _).1 hq
      simpa using this
    · obtain ⟨b, r, hr⟩ := List.exists_cons_of_ne_nil hq
      have hn := List.head_dropWhile_not (cs.contains ·) hq
      have hm : (l.reverse.dropWhile (cs.contains ·)).head hq ∈ (l.reverse.dropWhile (cs.contains ·)).reverse := by
        rw [List.mem_reverse]; exact List.head_mem hq
      have := List.all_eq_true.1 h _ hm
      rw [this] at hn
      cases hn
  · intro h
    have : l.reverse.dropWhile (cs.contains ·) = [] := (dropWhile_nil _ _).2 (by simpa using h)
    rw [this]; rfl
theorem trimS_beq (l cs : List UInt8) : ((⟨(Lib.trimS l cs).toArray⟩ : ByteArray).toList == ([] : List UInt8)) = l.all (cs.contains ·) := by
  have e : ((⟨(Lib.trimS l cs).toArray⟩ : ByteArray).toList == ([] : List UInt8)) = (Lib.trimS l cs).isEmpty := by
    rw [ByteArray.toList_eq]
    cases h : Lib.trimS l cs with
    | nil => rfl
    | cons a r => rfl
  rw [e]
  have := trimS_nil l cs
  cases h : l.all (cs.contains ·)
  · rw [h] at this
    cases hq : Lib.trimS l cs with
    | nil => exact absurd (this.1 hq) (by simp)
    | cons a r => rfl
  · rw [h] at this
    rw [this.2 rfl]; rfl
theorem isBit_contains (b : UInt8) : ([48, 49] : List UInt8).contains b = isBit b := by
  simp [List.contains, List.elem, isBit]
  cases (b == 48) <;> cases (b == 49) <;> rfl
def onN (s : ByteArray) : Nat := s.data.toList.count 49
section
variable {w : World} {K m n : Nat} {e : TypeId} {f : Nat → UInt8}
end
theorem str_snoc (T : List UInt8) (c : UInt8) : (⟨T.toArray⟩ : ByteArray) ++ (⟨#[c]⟩ : ByteArray) = ⟨(T ++ [c]).toArray⟩ := by
  apply ByteArray.ext
  simp
end Go.Proofs.YtcogjabdddikjaaDoor
