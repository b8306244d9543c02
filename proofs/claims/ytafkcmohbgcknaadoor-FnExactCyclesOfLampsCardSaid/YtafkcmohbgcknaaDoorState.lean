/- States as texts of signs 0, 1: counting, trimming, all states of few rings. No program in sight. -/
import Derived.Test.YtafkcmohbgcknaaDoorLib
import Derived.Test.YtafkcmohbgcknaaDoorEv
import Derived.Lib.SlTrimSet
import Derived.Lib.Strings
import Derived.Lib.OthersKept
import Derived.Lib.ConvBytes
namespace Go.Proofs.YtafkcmohbgcknaaDoor
open Go.RowKit Go.Proofs.YtafkcmohbgcknaaDoorW.PrintWords Go.Proofs.YtafkcmohbgcknaaDoorW.PrintLast Go.Proofs.YtafkcmohbgcknaaDoorW.PrintMore
set_option linter.unusedVariables false
set_option linter.unusedSimpArgs false
def isBit (b : UInt8) : Bool := b == 48 || b == 49
/-- A text is a state: 1 to 20 signs 0, 1. -/
def stateB (s : ByteArray) : Bool := inB (s.size : Int) 1 20 && s.data.toList.all isBit
theorem bt_nat (s : ByteArray) (i : Nat) (h : i < s.data.toList.length) : bt s (i : Int) = ((s.data.toList[i]).toNat : Int) := by
  have h' : i < s.size := by rw [Lib.size_eq]; exact h
  have := bt_at s (i : Int) (by simpa using h')
  rw [← this]
  simp
  rfl
theorem byte_toInt (b : UInt8) (n : Nat) (hn : n < 256) : ((b.toNat : Int) = n) = (b = UInt8.ofNat n) := by
  apply propext
  constructor
  · intro h
    apply UInt8.toNat_inj.mp
    rw [UInt8.toNat_ofNat']
    omega
  · intro h
    subst h
    rw [UInt8.toNat_ofNat']
    omega
theorem dropWhile_nil {α : Type} (p : α → Bool) (l : List α) : (l.dropWhile p = []) ↔ l.all p = true := by
  induction l with
  | nil => simp
  | cons a l ih =>
    cases h : p a
    · simp [h]
    · simp [h, ih]
theorem trimS_nil (l cs : List UInt8) : (Lib.trimS l cs = []) ↔ l.all (cs.contains ·) = true := by
  unfold Lib.trimS Lib.trimLeftS Lib.trimRightS
  rw [dropWhile_nil]
  constructor
  · intro h
    by_cases hq : l.reverse.dropWhile (cs.contains ·) = []
    · have := (dropWhile_nil _ _).1 hq
      simpa using this
    · obtain ⟨b, r, hr⟩ := List.exists_cons_of_ne_nil hq
      have hn := List.head_dropWhile_not (cs.contains ·) hq
      have hm : (l.reverse.dropWhile (cs.contains ·)).head hq ∈ (l.reverse.dropWhile (cs.contains ·)).reverse := by
        rw [List.mem_reverse]; exact List.head_mem hq
      have := List.all_eq_true.1 h _ hm
      rw [this] at hn
      cases hn
  · intro h
    have : l.reverse.dropWhile (cs.contains ·) = [] := (dropWhile_nil _ _).2 (by simpa using h)
    rw [this]; rfl
theorem trimS_beq (l cs : List UInt8) : ((⟨(Lib.trimS l cs).toArray⟩ : ByteArray).toList == ([] : List UInt8)) = l.all (cs.contains ·) := by
  have e : ((⟨(Lib.trimS l cs).toArray⟩ : ByteArray).toList == ([] : List UInt8)) = (Lib.trimS l cs).isEmpty := by
    rw [ByteArray.toList_eq]
    cases h : Lib.trimS l cs with
    | nil => rfl
    | cons a r => rfl
  rw [e]
  have := trimS_nil l cs
  cases h : l.all (cs.contains ·)
  · rw [h] at this
    cases hq : Lib.trimS l cs with
    | nil => exact absurd (this.1 hq) (by simp)
    | cons a r => rfl
  · rw [h] at this
    rw [this.2 rfl]; rfl
theorem isBit_contains (b : UInt8) : ([48, 49] : List UInt8).contains b = isBit b := by
  simp [List.contains, List.elem, isBit]
  cases (b == 48) <;> cases (b == 49) <;> rfl
def onN (s : ByteArray) : Nat := s.data.toList.count 49
def canB (s : ByteArray) (a : Int) : Bool := decide (a = 0) || inB a 1 ((s.size : Int) - 1) && decide (bt s (a - 1) = 49) && decide ((s.data.toList.take (a - 1).toNat).count 49 = 0)
theorem extract_toNat (s : ByteArray) (n : Nat) : (s.extract 0 n).data.toList = s.data.toList.take n := by
  rw [Lib.extract_data]; simp
/-- All states of so many rings. -/
def allS : Nat → List (List UInt8)
  | 0 => [[]]
  | n + 1 => (allS n).flatMap fun l => [48 :: l, 49 :: l]
theorem mem_allS : ∀ (l : List UInt8), l.all isBit = true → l ∈ allS l.length
  | [], _ => by simp [allS]
  | b :: l, h => by
    simp only [List.all_cons, Bool.and_eq_true] at h
    have := mem_allS l h.2
    simp only [isBit, Bool.or_eq_true, beq_iff_eq] at h
    simp only [List.length_cons, allS, List.mem_flatMap]
    refine ⟨l, this, ?_⟩
    rcases h.1 with rfl | rfl <;> simp
theorem stateB_bits {s : ByteArray} (h : stateB s = true) : s.data.toList.all isBit = true := by unfold stateB at h; simp only [Bool.and_eq_true] at h; exact h.2
theorem shl_le (r : Int) (h : 1 ≤ r) (h' : r ≤ 7) : wrap64 (shl .i64 1 r - 1) ≤ 127 := by
  have : r = 1 ∨ r = 2 ∨ r = 3 ∨ r = 4 ∨ r = 5 ∨ r = 6 ∨ r = 7 := by omega
  rcases this with rfl | rfl | rfl | rfl | rfl | rfl | rfl <;> decide +kernel
def okArg (r k a : Int) : Prop := if k = 0 ∨ k = 4 then 0 ≤ a ∧ a < r else if k = 2 then 2 ≤ a ∧ a ≤ 9 else if k = 3 then 0 ≤ a ∧ a ≤ 127 else True
theorem okArg_of {r k a b : Int} (h1 : 1 ≤ r) (h7 : r ≤ 7) (h : clueB r k a b = true) : okArg r k a ∧ 0 ≤ k ∧ k ≤ 4 ∧ (k = 1 → b = 0) := by
  unfold clueB at h
  unfold okArg
  have e : wrap64 (r - 1) = r - 1 := w64 (by omega) (by omega)
  have e2 := shl_le r h1 h7
  by_cases c0 : k = 0 ∨ k = 4
  · rw [if_pos c0] at h ⊢
    simp only [Bool.and_eq_true, e] at h
    have := inB_lo h.1
    have := inB_hi h.1
    omega
  · rw [if_neg c0] at h ⊢
    by_cases c1 : k = 1
    · rw [if_pos c1] at h
      simp only [Bool.and_eq_true, beq_iff_eq] at h
      subst c1
      exact ⟨by simp, by omega, by omega, fun _ => h.2⟩
    · rw [if_neg c1] at h
      by_cases c2 : k = 2
      · rw [if_pos c2] at h ⊢
        simp only [Bool.and_eq_true] at h
        have := inB_lo h.1
        have := inB_hi h.1
        omega
      · rw [if_neg c2] at h ⊢
        by_cases c3 : k = 3
        · rw [if_pos c3] at h ⊢
          simp only [Bool.and_eq_true] at h
          have := inB_lo h.1
          have := inB_hi h.1
          omega
        · rw [if_neg c3] at h
          cases h
def hiddenB (s : ByteArray) : Bool := stateB s && decide (s.size ≤ 7)
theorem isSign_contains (b : UInt8) : ([48, 49, 63] : List UInt8).contains b = isSign b := by
  simp [List.contains, List.elem, isSign]
  cases (b == 48) <;> cases (b == 49) <;> cases (b == 63) <;> rfl
theorem isSign_ascii {b : UInt8} (h : isSign b = true) : b.toNat < 128 := by
  simp only [isSign, Bool.or_eq_true, beq_iff_eq] at h
  rcases h with (rfl | rfl) | rfl <;> decide
theorem isBit_ascii {b : UInt8} (h : isBit b = true) : b.toNat < 128 := by
  simp only [isBit, Bool.or_eq_true, beq_iff_eq] at h
  rcases h with rfl | rfl <;> decide
/-- An iterator that is moved on turns no cell of another block. -/
theorem cell_iterAt (w : World) (K : Nat) (s : ByteArray) (pos : Nat) (a : Addr) (h : a.block ≠ K) : (w.iterAt K s pos).cell? a = w.cell? a := by
  simp [World.cell?, Lib.iterAt_other w K a.block s pos h]
theorem decode_sign (s : ByteArray) (pos : Nat) (h : pos < s.size) (hl : pos < s.data.toList.length) (hs : isSign s.data.toList[pos] = true) : (Utf8.decode s pos).2 = 1 := by
  have e : s.data.toList[pos] = s[pos]'h := by simp; rfl
  rw [e] at hs
  rw [decode_ascii s pos h (isSign_ascii hs)]
theorem decode_bit (s : ByteArray) (pos : Nat) (h : pos < s.size) (hl : pos < s.data.toList.length) (hs : isBit s.data.toList[pos] = true) : (Utf8.decode s pos).2 = 1 := by
  refine decode_sign s pos h hl ?_
  revert hs
  generalize s.data.toList[pos] = b
  simp only [isBit, isSign, Bool.or_eq_true]
  intro h; exact .inl h
theorem litB_eq (n : Nat) (s : ByteArray) : litB n s = (s.size == n && s.data.toList.all isBit) := rfl
/-- The number of a state, all being in order. -/
def numL (l : List UInt8) : Nat := l.foldl (fun n b => 2 * n + (if b = 49 then 1 else 0)) 0
theorem numL_snoc (l : List UInt8) (b : UInt8) : numL (l ++ [b]) = 2 * numL l + (if b = 49 then 1 else 0) := by simp [numL]
theorem numL_lt : ∀ (n : Nat) (l : List UInt8), l.length = n → numL l < 2 ^ n := by
  intro n
  induction n with
  | zero => intro l h; obtain rfl := List.length_eq_zero_iff.1 h; simp [numL]
  | succ n ih =>
    intro l h
    rcases List.eq_nil_or_concat l with rfl | ⟨l', b, rfl⟩
    · cases h
    · rw [List.concat_eq_append, numL_snoc]
      have := ih l' (by simpa using h)
      rw [Nat.pow_succ]
      split <;> omega
theorem below_bytes {B : Nat} {a w : World} (h : Below B a w) (hB : B ≤ w.heap.size) (e : TypeId) (s : ByteArray) : Below B a (Lib.bytesWorld w e s) :=
  h.trans ⟨by unfold Lib.bytesWorld World.freeze; split <;> rfl, by unfold Lib.bytesWorld World.freeze; split <;> rfl, by unfold Lib.bytesWorld World.freeze; split <;> rfl, by rw [Lib.bytesWorld_size]; omega, fun i hi => Lib.bytesWorld_at_old w e s i (by omega)⟩
/-- A block holds bytes that a conversion made: f tells those below n. -/
def bytesAt (w : World) (K m : Nat) (e : TypeId) (n : Nat) (f : Nat → UInt8) : Prop := n ≤ m ∧ ∃ arr : Array Value, w.heap[K]? = some (.cells arr e (m, m + 1)) ∧ ∀ j, j < n → arr[j]? = some (.int .u8 (f j).toNat)
theorem bytesAt_made (w : World) (e : TypeId) (s : ByteArray) : bytesAt (Lib.bytesWorld w e s) w.heap.size (Lib.bytesCells w e s).size e s.size (fun j => s.data.toList.getD j 0) := by
  refine ⟨by simp only [Lib.bytesCells, Array.size_append, Array.size_map]; show s.data.size ≤ _; omega, Lib.bytesCells w e s, Lib.bytesWorld_at_new w e s, fun j hj => ?_⟩
  have h := Lib.bytesWorld_cell w e s j hj
  rw [cell_of_row _ _ _ _ _ _ (Lib.bytesWorld_at_new w e s)] at h
  exact h
section
variable {w : World} {K m n : Nat} {e : TypeId} {f : Nat → UInt8}
theorem bytesAt_cell (h : bytesAt w K m e n f) (j : Nat) (hj : j < n) : w.cell? ⟨K, j, none⟩ = some (.int .u8 (f j).toNat) := by
  obtain ⟨_, arr, hh, hc⟩ := h
  rw [cell_of_row _ _ _ _ _ _ hh]
  exact hc j hj
theorem bytesAt_frozen (h : bytesAt w K m e n f) (j : Nat) (hj : j < n) : w.frozen? ⟨K, j, none⟩ = false := by
  obtain ⟨hm, arr, hh, _⟩ := h
  simp [World.frozen?, hh]
  omega
theorem bytesAt_set (h : bytesAt w K m e n f) (j : Nat) (b : UInt8) : bytesAt (w.setCell ⟨K, j, none⟩ (.int .u8 b.toNat)) K m e n (fun i => if i = j then b else f i) := by
  obtain ⟨hm, arr, hh, hc⟩ := h
  refine ⟨hm, arr.setIfInBounds j (.int .u8 b.toNat), by simp [World.setCell, Array.getElem?_modify, hh], fun i hi => ?_⟩
  have hc := hc i hi
  have hlt : i < arr.size := (Array.getElem?_eq_some_iff.1 hc).1
  by_cases c : i = j
  · subst c; simp [hlt]
  · simp [c, Array.getElem?_setIfInBounds, Ne.symm c, hc]
theorem bytesAt_below {w' : World} (h : bytesAt w K m e n f) (hb : Below w.heap.size w w') : bytesAt w' K m e n f := by
  obtain ⟨hm, arr, hh, hc⟩ := h
  exact ⟨hm, arr, (hb.block K (Array.getElem?_eq_some_iff.1 hh).1).trans hh, hc⟩
theorem bytesAt_grown {w' : World} {row : Option Nat} (h : bytesAt w K m e n f) (hg : w.grownBy w' row) (hne : some K ≠ row) : bytesAt w' K m e n f := by
  obtain ⟨hm, arr, hh, hc⟩ := h
  exact ⟨hm, arr, (hg.block K (Array.getElem?_eq_some_iff.1 hh).1 hne).trans hh, hc⟩
theorem bytesAt_ne (h : bytesAt w K m e n f) {e' : TypeId} (he : e ≠ e') {v : Value} (ht : ∀ k, v.ownBlock = some k → ∃ cells, w.heap[k]? = some (.cells cells e' (0, 0))) : some K ≠ v.ownBlock := by
  obtain ⟨hm, arr, hh, hc⟩ := h
  intro hv
  obtain ⟨cells, hcs⟩ := ht K hv.symm
  rw [hh] at hcs
  cases hcs
theorem bytesAt_lt (h : bytesAt w K m e n f) : K < w.heap.size := by
  obtain ⟨_, arr, hh, _⟩ := h
  exact (Array.getElem?_eq_some_iff.1 hh).1
theorem bytesAt_congr {g : Nat → UInt8} (h : bytesAt w K m e n f) (hg : ∀ j, j < n → g j = f j) : bytesAt w K m e n g := by
  obtain ⟨hm, arr, hh, hc⟩ := h
  exact ⟨hm, arr, hh, fun j hj => by rw [hg j hj]; exact hc j hj⟩
theorem bytesAt_string {P : Program} {src dst : TypeId} (h : bytesAt w K m e n f) (hs : P.underlying src = some (.slice e)) (he : P.underlying e = some (.int .u8)) (hd : P.underlying dst = some .string) (c : Nat) (l : List UInt8) (hl : l.length = n) (hg : ∀ j (hj : j < l.length), f j = l[j]) :
    (convert src dst (.slice (some ⟨K, 0, none⟩) n c)).run P w = .ok (.string ⟨l.toArray⟩) w := by
  have h1 := run_convert_bytes_arg (w := w) src e hs he K 0 n c (l.map fun b => (b.toNat : Int)) (by simpa using hl) (fun i hi => by
    rw [Nat.zero_add, bytesAt_cell h i hi, hg i (by omega)]
    simp [List.getD, List.getElem?_eq_getElem (show i < l.length by omega)]) dst hd
  have e : (l.map fun b => (b.toNat : Int)).map (fun n => UInt8.ofNat n.toNat) = l := by
    rw [List.map_map]
    conv => rhs; rw [← List.map_id l]
    exact List.map_congr_left fun b _ => by simp
  rw [h1, strOfNums, e]
end
theorem below_setCell {B : Nat} {a w : World} (h : Below B a w) (K j : Nat) (v : Value) (hK : B ≤ K) : Below B a (w.setCell ⟨K, j, none⟩ v) :=
  h.trans ⟨rfl, rfl, rfl, by simp [World.setCell], fun i hi => by simp [World.setCell, Array.getElem?_modify]; omega⟩
theorem str_snoc (T : List UInt8) (c : UInt8) : (⟨T.toArray⟩ : ByteArray) ++ (⟨#[c]⟩ : ByteArray) = ⟨(T ++ [c]).toArray⟩ := by
  apply ByteArray.ext
  simp
/-- Lamps, and a state of them. -/
def litR (l : List ByteArray) (s : ByteArray) : Bool := areLampsB l && litB l.length s
theorem lamps_facts {l : List ByteArray} (h : areLampsB l = true) : 1 ≤ l.length ∧ l.length ≤ 10 ∧ (∀ x ∈ l, x.size = l.length ∧ x.data.toList.all isSign = true) := by
  simp only [areLampsB, Bool.and_eq_true] at h
  have h1 := inB_lo h.1
  have h2 := inB_hi h.1
  refine ⟨by omega, by omega, fun x hx => ?_⟩
  have := List.all_eq_true.1 h.2 x hx
  simp only [needB, Bool.and_eq_true, beq_iff_eq] at this
  exact this
theorem lit_facts {l : List ByteArray} {s : ByteArray} (h : litR l s = true) : areLampsB l = true ∧ l.length = s.size ∧ 1 ≤ s.size ∧ s.size ≤ 10 ∧ (∀ x ∈ l, x.size ≤ s.size) ∧ s.data.toList.all isBit = true := by
  simp only [litR, Bool.and_eq_true] at h
  obtain ⟨h1, h2, h3⟩ := lamps_facts h.1
  have h4 := h.2
  rw [litB_eq] at h4
  simp only [Bool.and_eq_true, beq_iff_eq] at h4
  exact ⟨h.1, h4.1.symm, by omega, by omega, fun x hx => by have := (h3 x hx).1; omega, h4.2⟩
def tickS (l : List ByteArray) (s : ByteArray) : ByteArray := ⟨(tickL l s.data.toList).toArray⟩
theorem tickL_bits (l : List ByteArray) (s : List UInt8) (hs : s.all isBit = true) : (tickL l s).all isBit = true := by
  refine all_of _ _ fun j hj => ?_
  have hj' : j < s.length := by simp [tickL] at hj; omega
  have hb := List.all_eq_true.1 hs _ (List.getElem_mem hj')
  have e : (tickL l s)[j] = if meetsL (l[j]'(by simp [tickL] at hj; omega)).data.toList s = true then 97 - s[j] else s[j] := by simp [tickL]
  rw [e]
  generalize s[j] = b at hb ⊢
  simp only [isBit, Bool.or_eq_true, beq_iff_eq] at hb
  split
  · rcases hb with rfl | rfl <;> decide
  · rcases hb with rfl | rfl <;> decide
theorem tickS_size {l : List ByteArray} {s : ByteArray} (h : l.length = s.size) : (tickS l s).size = s.size := by
  show (tickL l s.data.toList).toArray.size = s.size
  have := Lib.size_eq s
  rw [List.size_toArray, tickL_length _ _ (by omega)]
  omega
theorem lit_tick {l : List ByteArray} {s : ByteArray} (h : litR l s = true) : litR l (tickS l s) = true := by
  obtain ⟨h1, h2, _, _, _, h6⟩ := lit_facts h
  simp only [litR, h1, Bool.true_and]
  rw [litB_eq, tickS_size h2, h2]
  simp only [beq_self_eq_true, Bool.true_and]
  exact tickL_bits _ _ h6
/-- The places below k at which a need says something. -/
def neededT (s : List UInt8) (k : Nat) : List Int := ((List.range k).filter fun i : Nat => s.getD i 0 != 63).map fun i : Nat => (i : Int)
theorem neededT_step (s : List UInt8) (k : Nat) (h : k < s.length) : neededT s (k + 1) = if s[k] = 63 then neededT s k else neededT s k ++ [(k : Int)] := by
  have e : s.getD k 0 = s[k] := by simp [List.getD, List.getElem?_eq_getElem h]
  unfold neededT
  rw [List.range_succ, List.filter_append, List.map_append]
  by_cases c : s[k] = 63
  · have hb : (s.getD k 0 != 63) = false := by rw [e, c]; rfl
    rw [if_pos c]
    simp only [List.filter, hb, List.map_nil, List.append_nil]
  · have hb : (s.getD k 0 != 63) = true := by rw [e]; simpa using c
    rw [if_neg c]
    simp only [List.filter, hb, List.map_cons, List.map_nil]
theorem neededT_length (s : List UInt8) (k : Nat) : (neededT s k).length ≤ k := by
  unfold neededT
  rw [List.length_map]
  exact Nat.le_trans (List.length_filter_le _ _) (by simp)
/-- A row of the call's own stays where bytes that a conversion made are written. -/
theorem R_bytes {α : Type} {d : Kd α} {e e' base K m n j : Nat} {ok : Nat → Prop} {w : World} {v u : Value} {xs : List α} {f : Nat → UInt8} (h : d.R e w base ok v xs) (hb : bytesAt w K m e' n f) : d.R e (w.setCell ⟨K, j, none⟩ u) base ok v xs :=
  Kd.R_mono (Kd.R_far (p := ⟨K, j, none⟩) (Kd.R_bound h) (fun k hk he => by
    obtain ⟨_, _, _, q, _, cells, hc⟩ := hk
    obtain ⟨_, arr, hh, _⟩ := hb
    simp only at he
    subst he
    rw [hh] at hc
    cases hc) u) (fun k hk => hk.1)
/-- A row of the call's own stays where an iterator is moved on. -/
theorem R_iter {α : Type} {d : Kd α} {e base K p p' : Nat} {ok : Nat → Prop} {w : World} {v : Value} {xs : List α} {s : ByteArray} (h : d.R e w base ok v xs) (hk : w.heap[K]? = some (.stringIter s p)) : d.R e (w.iterAt K s p') base ok v xs :=
  Kd.R_mono (Kd.R_step (Kd.R_bound h) (fun k ho _ => Lib.iterAt_other w K k s p' (by
    obtain ⟨_, _, _, q, _, cells, hc⟩ := ho
    rintro rfl
    rw [hk] at hc
    cases hc))) (fun k hk => hk.1)
end Go.Proofs.YtafkcmohbgcknaaDoor
