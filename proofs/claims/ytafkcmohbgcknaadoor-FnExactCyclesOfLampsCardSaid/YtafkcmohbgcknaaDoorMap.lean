/- A map of texts to numbers that a call made: which texts it has, and where each stands in a list. No condition beyond each law's own. -/
import Derived.Test.YtafkcmohbgcknaaDoorState
import Derived.Maps.Own
import Derived.Maps.Views
import Derived.Maps.OwnSet
namespace Go.Proofs.YtafkcmohbgcknaaDoor
open Go.MapKept Go.ChangeMaps Go.WideMaps Go.RowKit Go.Proofs.YtafkcmohbgcknaaDoorW.PrintWords Go.Proofs.YtafkcmohbgcknaaDoorW.PrintLast Go.Proofs.YtafkcmohbgcknaaDoorW.PrintMore
set_option linter.unusedVariables false
set_option linter.unusedSimpArgs false
instance baEq : DecidableEq ByteArray := fun a b => decidable_of_iff (a.data = b.data) ⟨ByteArray.ext, fun h => by rw [h]⟩
instance baMem (s : ByteArray) (l : List ByteArray) : Decidable (s ∈ l) := decidable_of_iff (l.any (fun x => decide (x = s)) = true) (by simp)
def idxS (acc : List ByteArray) (s : ByteArray) : Nat := acc.findIdx (fun x => decide (x = s))
theorem idxS_append {acc : List ByteArray} {s : ByteArray} (h : s ∈ acc) (l : List ByteArray) : idxS (acc ++ l) s = idxS acc s := by
  unfold idxS
  rw [List.findIdx_append, if_pos]
  exact List.findIdx_lt_length.2 ⟨s, h, by simp⟩
theorem idxS_new {acc : List ByteArray} {s : ByteArray} (h : s ∉ acc) : idxS (acc ++ [s]) s = acc.length := by
  unfold idxS
  have : acc.findIdx (fun x => decide (x = s)) = acc.length := List.findIdx_eq_length.2 (fun x hx => by simp; rintro rfl; exact h hx)
  rw [List.findIdx_append, if_neg (by omega)]
  simp
/-- A block is a map that has the texts of a list, each with its place. -/
def mapHas (P : Program) (k e : TypeId) (w : World) (b : Nat) (acc : List ByteArray) : Prop :=
  ∃ D : DataW Unit, w.ownsMap P k (plainElem P e) b acc.length D ∧ ∀ s : ByteArray, s.size ≤ maxLen → ∀ zd : DataW Unit, D.atKey (.string s.data.toList) zd = if s ∈ acc then .lit (.int .i64 (idxS acc s : Nat)) else zd
section
variable {P : Program} {t k e : TypeId} {w : World} {b : Nat} {acc : List ByteArray}
theorem mapHas_made (P : Program) (k e : TypeId) (w : World) : mapHas P k e (w.alloc (.map #[] 0)) w.heap.size [] :=
  ⟨.map [], World.ownsMap_made w P k _, fun s _ zd => rfl⟩
theorem mapHas_block (h : mapHas P k e w b acc) : ∃ es c, w.heap[b]? = some (.map es c) := by
  obtain ⟨D, ⟨es, c, hb, _⟩, _⟩ := h
  exact ⟨es, c, hb⟩
theorem mapHas_lt (h : mapHas P k e w b acc) : b < w.heap.size := by
  obtain ⟨es, c, hb⟩ := mapHas_block h
  exact (Array.getElem?_eq_some_iff.1 hb).1
theorem mapHas_kept {w' : World} {row : Option Nat} (h : mapHas P k e w b acc) (hg : w.grownBy w' row) (hne : some b ≠ row) : mapHas P k e w' b acc := by
  obtain ⟨D, ho, hD⟩ := h
  exact ⟨D, ho.kept hg hne, hD⟩
theorem mapHas_below {w' : World} (h : mapHas P k e w b acc) (hb : Below w.heap.size w w') : mapHas P k e w' b acc :=
  mapHas_kept (row := none) h ⟨hb.os, hb.tape, hb.output, hb.size, fun i hi _ => hb.block i hi⟩ (by simp)
theorem mapHas_look (h : mapHas P k e w b acc) (hk : P.underlying k = some .string) (ht : P.underlying t = some (.map k e)) (he : P.underlying e = some (.int .i64)) (hz : (zeroValue e).run P w = .ok (.int .i64 0) w) (s : ByteArray) (hs : s.size ≤ maxLen) :
    (Instr.lookup t (.map (some b)) (.string s) true).run P w = .ok (if s ∈ acc then .tuple #[.int .i64 (idxS acc s : Nat), .bool true] else .tuple #[.int .i64 0, .bool false]) w := by
  obtain ⟨D, ⟨es, c, hb, F, _, rfl⟩, hD⟩ := h
  have hkey := keyOf_string_mk hk hs
  have hD := hD s hs
  rcases Maps.fit_look true (Maps.string_keyed hk) ht hz hb F hkey with ⟨hrun, _, hat⟩ | ⟨e0, y, _, _, hrun, hR, hat, _⟩
  · by_cases hm : s ∈ acc
    · exfalso
      have h1 := (hat (.lit (.bool true))).symm.trans (hD (.lit (.bool true)))
      rw [if_pos hm] at h1
      cases h1
    · rw [hrun, if_neg hm]; rfl
  · by_cases hm : s ∈ acc
    · obtain ⟨a, hv, hy, _⟩ := plainElem_int_inv he hR
      have h1 := (hat (.lit (.bool true))).symm.trans (hD (.lit (.bool true)))
      rw [if_pos hm, hy] at h1
      have h2 : a = ((idxS acc s : Nat) : Int) := by cases h1; rfl
      rw [hrun, if_pos hm, hv, h2]; rfl
    · exfalso
      have h1 := (hat (.lit (.bool true))).symm.trans (hD (.lit (.bool true)))
      have h2 := (hat (.lit (.bool false))).symm.trans (hD (.lit (.bool false)))
      rw [if_neg hm] at h1 h2
      rw [h1] at h2
      cases h2
theorem mapHas_put (h : mapHas P k e w b acc) (hk : P.underlying k = some .string) (ht : P.underlying t = some (.map k e)) (he : P.underlying e = some (.int .i64)) (s : ByteArray) (hs : s.size ≤ maxLen) (hn : acc.length < 9223372036854775807) (hm : s ∉ acc) :
    ∃ w', (Instr.mapUpdate t (.map (some b)) (.string s) (.int .i64 (acc.length : Nat))).run P w = .ok () w' ∧ mapHas P k e w' b (acc ++ [s]) ∧ w.grownBy w' (some b) := by
  obtain ⟨D, ho, hD⟩ := h
  have hkey := keyOf_string_mk hk hs
  have hwf : (Lit.int .i64 (acc.length : Nat)).wf = true := by
    simp only [Lit.wf, Bool.and_eq_true, decide_eq_true_eq]
    show (-9223372036854775808 : Int) ≤ _ ∧ _ ≤ (9223372036854775807 : Int)
    omega
  obtain ⟨w', hrun, ho', hg⟩ := ho.update (Maps.string_keyed hk) ht (by simpa [maxLen] using hn) hkey (plainElem_int (H := Unit) he hwf)
  refine ⟨w', hrun, ⟨_, by simpa using ho', fun s' hs' zd => ?_⟩, hg⟩
  have hmap : Maps.IsMap D := by
    obtain ⟨es, c, _, _, _, rfl⟩ := ho
    exact ⟨_, rfl⟩
  by_cases hc : s' = s
  · subst hc
    rw [Maps.atKey_put_same hmap ((Maps.string_keyed hk).key hkey), if_pos (by simp)]
    rw [idxS_new hm]
  · have hne : (Lit.string s'.data.toList) ≠ (Lit.string s.data.toList) := by
      intro h
      injection h with h
      apply hc
      apply ByteArray.ext
      exact Array.toList_inj.1 h
    rw [Maps.atKey_put_other hne, hD s' hs' zd]
    by_cases hi : s' ∈ acc
    · rw [if_pos hi, if_pos (by simp [hi]), idxS_append hi]
    · rw [if_neg hi, if_neg (by simp [hi, hc])]
end
/-- A list of texts with one more, if it is new. -/
def addS (acc : List ByteArray) (s : ByteArray) : List ByteArray := if s ∈ acc then acc else acc ++ [s]
theorem mem_addS {acc : List ByteArray} {s x : ByteArray} : x ∈ addS acc s ↔ x ∈ acc ∨ x = s := by
  unfold addS
  split
  · exact ⟨.inl, fun h => h.elim id (fun e => e ▸ by assumption)⟩
  · simp
theorem addS_length (acc : List ByteArray) (s : ByteArray) : (addS acc s).length ≤ acc.length + 1 := by
  unfold addS; split <;> simp
/-- A block is a map that has the texts of a list, each with 'true'. -/
def setHas (P : Program) (k e : TypeId) (w : World) (b : Nat) (acc : List ByteArray) : Prop :=
  ∃ D : DataW Unit, w.ownsMap P k (plainElem P e) b acc.length D ∧ Maps.size D = acc.length ∧ ∀ s : ByteArray, s.size ≤ maxLen → ∀ zd : DataW Unit, D.atKey (.string s.data.toList) zd = if s ∈ acc then .lit (.bool true) else zd
section
variable {P : Program} {t k e : TypeId} {w : World} {b : Nat} {acc : List ByteArray}
theorem setHas_made (P : Program) (k e : TypeId) (w : World) : setHas P k e (w.alloc (.map #[] 0)) w.heap.size [] :=
  ⟨.map [], World.ownsMap_made w P k _, rfl, fun s _ zd => rfl⟩
theorem setHas_block (h : setHas P k e w b acc) : ∃ es c, w.heap[b]? = some (.map es c) := by
  obtain ⟨D, ⟨es, c, hb, _⟩, _⟩ := h
  exact ⟨es, c, hb⟩
theorem setHas_lt (h : setHas P k e w b acc) : b < w.heap.size := by
  obtain ⟨es, c, hb⟩ := setHas_block h
  exact (Array.getElem?_eq_some_iff.1 hb).1
theorem setHas_kept {w' : World} {row : Option Nat} (h : setHas P k e w b acc) (hg : w.grownBy w' row) (hne : some b ≠ row) : setHas P k e w' b acc := by
  obtain ⟨D, ho, hD⟩ := h
  exact ⟨D, ho.kept hg hne, hD⟩
theorem setHas_below {w' : World} (h : setHas P k e w b acc) (hb : Below w.heap.size w w') : setHas P k e w' b acc :=
  setHas_kept (row := none) h ⟨hb.os, hb.tape, hb.output, hb.size, fun i hi _ => hb.block i hi⟩ (by simp)
theorem setHas_look (h : setHas P k e w b acc) (hk : P.underlying k = some .string) (ht : P.underlying t = some (.map k e)) (he : P.underlying e = some .bool) (hz : (zeroValue e).run P w = .ok (.bool false) w) (s : ByteArray) (hs : s.size ≤ maxLen) :
    (Instr.lookup t (.map (some b)) (.string s) false).run P w = .ok (.bool (decide (s ∈ acc))) w := by
  obtain ⟨D, ho, _, hD⟩ := h
  obtain ⟨v, ps, hrun, hR⟩ := ho.lookup (Maps.string_keyed hk) ht hz (plainElem_bool he false) (keyOf_string_mk hk hs)
  rw [hD s hs] at hR
  have hv : v = .bool (decide (s ∈ acc)) := by
    unfold plainElem at hR
    rw [he] at hR
    cases v <;> simp at hR
    obtain ⟨h1, _⟩ := hR
    by_cases hm : s ∈ acc
    · rw [if_pos hm] at h1; cases h1; simp [hm]
    · rw [if_neg hm] at h1; cases h1; simp [hm]
  rw [hrun, hv]
theorem setHas_put (h : setHas P k e w b acc) (hk : P.underlying k = some .string) (ht : P.underlying t = some (.map k e)) (he : P.underlying e = some .bool) (s : ByteArray) (hs : s.size ≤ maxLen) (hn : acc.length < maxLen) :
    ∃ w', (Instr.mapUpdate t (.map (some b)) (.string s) (.bool true)).run P w = .ok () w' ∧ setHas P k e w' b (addS acc s) ∧ w.grownBy w' (some b) := by
  obtain ⟨D, ho, hsz, hD⟩ := h
  have hkey := keyOf_string_mk hk hs
  have htidy := ho.tidy (Maps.string_keyed hk)
  obtain ⟨w', hrun, ho', hg⟩ := ho.update (Maps.string_keyed hk) ht hn hkey (plainElem_bool (H := Unit) he true)
  have hhas : Maps.has D (.string s.data.toList) = decide (s ∈ acc) := by
    by_cases hm : s ∈ acc
    · rw [decide_eq_true hm]; exact Maps.has_true_of_atKey (y := .lit (.bool true)) (fun z => by rw [hD s hs z, if_pos hm])
    · rw [decide_eq_false hm]; exact Maps.has_false_of_atKey (fun z => by rw [hD s hs z, if_neg hm])
  have hsz' : Maps.size (D.put (.string s.data.toList) (.lit (.bool true))) = (addS acc s).length := by
    rw [Maps.size_put htidy, hhas, hsz]
    unfold addS
    by_cases hm : s ∈ acc
    · rw [decide_eq_true hm, if_pos rfl, if_pos hm]
    · rw [decide_eq_false hm, if_neg (by decide), if_neg hm]; simp
  refine ⟨w', hrun, ⟨_, ?_, hsz', fun s' hs' zd => ?_⟩, hg⟩
  · rw [← hsz']
    obtain ⟨es, c, hb, F, hz, hE⟩ := ho'
    rw [hE]
    exact ⟨es, c, hb, F, by simp [Maps.size, length_sorted], rfl⟩
  · by_cases hc : s' = s
    · subst hc
      rw [Maps.atKey_put_same ho.isMap ((Maps.string_keyed hk).key hkey), if_pos (mem_addS.2 (.inr rfl))]
    · have hne : (Lit.string s'.data.toList) ≠ (Lit.string s.data.toList) := by
        intro h
        injection h with h
        apply hc
        apply ByteArray.ext
        exact Array.toList_inj.1 h
      rw [Maps.atKey_put_other hne, hD s' hs' zd]
      by_cases hi : s' ∈ acc
      · rw [if_pos hi, if_pos (mem_addS.2 (.inl hi))]
      · rw [if_neg hi, if_neg (fun h => (mem_addS.1 h).elim hi hc)]
theorem setHas_len (h : setHas P k e w b acc) (ht : P.underlying t = some (.map k e)) (ty : TypeId) : (Builtin.len_ #[t] ty #[.map (some b)]).run P w = .ok (.int .i64 (acc.length : Nat)) w := by
  obtain ⟨D, ho, hsz, _⟩ := h
  rw [ho.len ht ty, hsz]
end
/-- A row of the call's own stays where a map is written. -/
theorem R_map {α : Type} {d : Kd α} {e base : Nat} {ok : Nat → Prop} {w w1 : World} {v : Value} {xs : List α} {b : Nat} {es : Array MapEntry} {c : Nat} (h : d.R e w base ok v xs) (hb : w.heap[b]? = some (.map es c)) (hg : w.grownBy w1 (some b)) : d.R e w1 base ok v xs :=
  Kd.R_mono (Kd.R_grown (Kd.R_bound h) hg (fun k hk he => by
    obtain ⟨_, _, _, q, _, cells, hc⟩ := hk
    cases he
    rw [hb] at hc
    cases hc)) (fun k hk => hk.1)
/-- The states that ticks lead to, up to before one comes again, and the place where that one is first. -/
def courseP (tick : ByteArray → ByteArray) : Nat → List ByteArray → ByteArray → Option (List ByteArray × Int)
  | 0, _, _ => none
  | n + 1, acc, s => if s ∈ acc then some (acc, (idxS acc s : Nat)) else courseP tick n (acc ++ [s]) (tick s)
end Go.Proofs.YtafkcmohbgcknaaDoor
