/- States as texts of signs 0, 1: counting, trimming, all states of few rings. No program in sight. -/
import Derived.Test.YtcogjabdddikjaaDoorQLib
import Derived.Test.YtcogjabdddikjaaDoorQEv
import Derived.Lib.SlTrimSet
import Derived.Lib.Strings
import Derived.Lib.OthersKept
import Derived.Lib.ConvBytes
namespace Go.Proofs.YtcogjabdddikjaaDoor
open Go.RowKit Go.Proofs.YtcogjabdddikjaaDoorW.PrintWords Go.Proofs.YtcogjabdddikjaaDoorW.PrintLast Go.Proofs.YtcogjabdddikjaaDoorW.PrintMore
set_option linter.unusedVariables false
set_option linter.unusedSimpArgs false
def isBit (b : UInt8) : Bool := b == 48 || b == 49
/-- A text is a state: 1 to 20 signs 0, 1. -/
def stateB (s : ByteArray) : Bool := inB (s.size : Int) 1 20 && s.data.toList.all isBit
theorem bt_nat (s : ByteArray) (i : Nat) (h : i < s.data.toList.length) : bt s (i : Int) = ((s.data.toList[i]).toNat : Int) := by
  have h' : i < s.size := by rw [Lib.size_eq]; exact h
  have := bt_at s (i : Int) (by simpa using h')
  rw [← this]
  simp
  rfl
theorem byte_toInt (b : UInt8) (n : Nat) (hn : n < 256) : ((b.toNat : Int) = n) = (b = UInt8.ofNat n) := by
  apply propext
  constructor
  · intro h
    apply UInt8.toNat_inj.mp
    rw [UInt8.toNat_ofNat']
    omega
  · intro h
    subst h
    rw [UInt8.toNat_ofNat']
    omega
theorem dropWhile_nil {α : Type} (p : α → Bool) (l : List α) : (l.dropWhile p = []) ↔ l.all p = true := by
  induction l with
  | nil => simp
  | cons a l ih =>
    cases h : p a
    · simp [h]
    · simp [h, ih]
theorem trimS_nil (l cs : List UInt8) : (Lib.trimS l cs = []) ↔ l.all (cs.contains ·) = true := by
  unfold Lib.trimS Lib.trimLeftS Lib.trimRightS
  rw [dropWhile_nil]
  constructor
  · intro h
    by_cases hq : l.reverse.dropWhile (cs.contains ·) = []
    · have := (dropWhile_nil _ _).1 hq
      simpa using this
    · obtain ⟨b, r, hr⟩ := List.exists_cons_of_ne_nil hq
      have hn := List.head_dropWhile_not (cs.contains ·) hq
      have hm : (l.reverse.dropWhile (cs.contains ·)).head hq ∈ (l.reverse.dropWhile (cs.contains ·)).reverse := by
        rw [List.mem_reverse]; exact List.head_mem hq
      have := List.all_eq_true.1 h _ hm
      rw [this] at hn
      cases hn
  · intro h
    have : l.reverse.dropWhile (cs.contains ·) = [] := (dropWhile_nil _ _).2 (by simpa using h)
    rw [this]; rfl
theorem trimS_beq (l cs : List UInt8) : ((⟨(Lib.trimS l cs).toArray⟩ : ByteArray).toList == ([] : List UInt8)) = l.all (cs.contains ·) := by
  have e : ((⟨(Lib.trimS l cs).toArray⟩ : ByteArray).toList == ([] : List UInt8)) = (Lib.trimS l cs).isEmpty := by
    rw [ByteArray.toList_eq]
    cases h : Lib.trimS l cs with
    | nil => rfl
    | cons a r => rfl
  rw [e]
  have := trimS_nil l cs
  cases h : l.all (cs.contains ·)
  · rw [h] at this
    cases hq : Lib.trimS l cs with
    | nil => exact absurd (this.1 hq) (by simp)
    | cons a r => rfl
  · rw [h] at this
    rw [this.2 rfl]; rfl
theorem isBit_contains (b : UInt8) : ([48, 49] : List UInt8).contains b = isBit b := by
  simp [List.contains, List.elem, isBit]
  cases (b == 48) <;> cases (b == 49) <;> rfl
def canB (s : ByteArray) (a : Int) : Bool := decide (a = 0) || inB a 1 ((s.size : Int) - 1) && decide (bt s (a - 1) = 49) && decide ((s.data.toList.take (a - 1).toNat).count 49 = 0)
theorem extract_toNat (s : ByteArray) (n : Nat) : (s.extract 0 n).data.toList = s.data.toList.take n := by
  rw [Lib.extract_data]; simp
theorem below_bytes {B : Nat} {a w : World} (h : Below B a w) (hB : B ≤ w.heap.size) (e : TypeId) (s : ByteArray) : Below B a (Lib.bytesWorld w e s) :=
  h.trans ⟨by unfold Lib.bytesWorld World.freeze; split <;> rfl, by unfold Lib.bytesWorld World.freeze; split <;> rfl, by unfold Lib.bytesWorld World.freeze; split <;> rfl, by rw [Lib.bytesWorld_size]; omega, fun i hi => Lib.bytesWorld_at_old w e s i (by omega)⟩
/-- A block holds bytes that a conversion made: f tells those below n. -/
def bytesAt (w : World) (K m : Nat) (e : TypeId) (n : Nat) (f : Nat → UInt8) : Prop := n ≤ m ∧ ∃ arr : Array Value, w.heap[K]? = some (.cells arr e (m, m + 1)) ∧ ∀ j, j < n → arr[j]? = some (.int .u8 (f j).toNat)
theorem bytesAt_made (w : World) (e : TypeId) (s : ByteArray) : bytesAt (Lib.bytesWorld w e s) w.heap.size (Lib.bytesCells w e s).size e s.size (fun j => s.data.toList.getD j 0) := by
  refine ⟨by simp only [Lib.bytesCells, Array.size_append, Array.size_map]; show s.data.size ≤ _; omega, Lib.bytesCells w e s, Lib.bytesWorld_at_new w e s, fun j hj => ?_⟩
  have h := Lib.bytesWorld_cell w e s j hj
  rw [cell_of_row _ _ _ _ _ _ (Lib.bytesWorld_at_new w e s)] at h
  exact h
section
variable {w : World} {K m n : Nat} {e : TypeId} {f : Nat → UInt8}
theorem bytesAt_cell (h : bytesAt w K m e n f) (j : Nat) (hj : j < n) : w.cell? ⟨K, j, none⟩ = some (.int .u8 (f j).toNat) := by
  obtain ⟨_, arr, hh, hc⟩ := h
  rw [cell_of_row _ _ _ _ _ _ hh]
  exact hc j hj
theorem bytesAt_frozen (h : bytesAt w K m e n f) (j : Nat) (hj : j < n) : w.frozen? ⟨K, j, none⟩ = false := by
  obtain ⟨hm, arr, hh, _⟩ := h
  simp [World.frozen?, hh]
  omega
theorem bytesAt_set (h : bytesAt w K m e n f) (j : Nat) (b : UInt8) : bytesAt (w.setCell ⟨K, j, none⟩ (.int .u8 b.toNat)) K m e n (fun i => if i = j then b else f i) := by
  obtain ⟨hm, arr, hh, hc⟩ := h
  refine ⟨hm, arr.setIfInBounds j (.int .u8 b.toNat), by simp [World.setCell, Array.getElem?_modify, hh], fun i hi => ?_⟩
  have hc := hc i hi
  have hlt : i < arr.size := (Array.getElem?_eq_some_iff.1 hc).1
  by_cases c : i = j
  · subst c; simp [hlt]
  · simp [c, Array.getElem?_setIfInBounds, Ne.symm c, hc]
theorem bytesAt_string {P : Program} {src dst : TypeId} (h : bytesAt w K m e n f) (hs : P.underlying src = some (.slice e)) (he : P.underlying e = some (.int .u8)) (hd : P.underlying dst = some .string) (c : Nat) (l : List UInt8) (hl : l.length = n) (hg : ∀ j (hj : j < l.length), f j = l[j]) :
    (convert src dst (.slice (some ⟨K, 0, none⟩) n c)).run P w = .ok (.string ⟨l.toArray⟩) w := by
  have h1 := run_convert_bytes_arg (w := w) src e hs he K 0 n c (l.map fun b => (b.toNat : Int)) (by simpa using hl) (fun i hi => by
    rw [Nat.zero_add, bytesAt_cell h i hi, hg i (by omega)]
    simp [List.getD, List.getElem?_eq_getElem (show i < l.length by omega)]) dst hd
  have e : (l.map fun b => (b.toNat : Int)).map (fun n => UInt8.ofNat n.toNat) = l := by
    rw [List.map_map]
    conv => rhs; rw [← List.map_id l]
    exact List.map_congr_left fun b _ => by simp
  rw [h1, strOfNums, e]
end
theorem below_setCell {B : Nat} {a w : World} (h : Below B a w) (K j : Nat) (v : Value) (hK : B ≤ K) : Below B a (w.setCell ⟨K, j, none⟩ v) :=
  h.trans ⟨rfl, rfl, rfl, by simp [World.setCell], fun i hi => by simp [World.setCell, Array.getElem?_modify]; omega⟩
theorem str_snoc (T : List UInt8) (c : UInt8) : (⟨T.toArray⟩ : ByteArray) ++ (⟨#[c]⟩ : ByteArray) = ⟨(T ++ [c]).toArray⟩ := by
  apply ByteArray.ext
  simp
end Go.Proofs.YtcogjabdddikjaaDoor
