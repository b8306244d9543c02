/- Loops that the laws' own help functions make (a copy, a comparison with itself, marks laid and asked), each once for all. No condition beyond each law's own. -/
import Derived.Test.YtafkcmohbgcknaaDoorLib
namespace Go.Proofs.YtafkcmohbgcknaaDoor
open Go.RowKit Go.Proofs.YtafkcmohbgcknaaDoorW.PrintWords Go.Proofs.YtafkcmohbgcknaaDoorW.PrintLast Go.Proofs.YtafkcmohbgcknaaDoorW.PrintMore
set_option linter.unusedVariables false
set_option linter.unusedSimpArgs false
theorem w64 {a : Int} (h : -9223372036854775808 ≤ a) (h' : a ≤ 9223372036854775807) : wrap64 a = a := by unfold wrap64; omega
/-- One round more, from some number on. -/
theorem Ev.next {α : Type} {g f : Nat → Option α} {r : α} (h : ∃ K, ∀ k, K ≤ k → g (k + 1) = f k) (k : Ev f r) : Ev g r := by
  obtain ⟨K, k⟩ := k
  obtain ⟨K', h⟩ := h
  refine ⟨K + K' + 1, fun n hn => ?_⟩
  obtain ⟨m, rfl⟩ : ∃ m, n = m + 1 := ⟨n - 1, by omega⟩
  rw [h m (by omega)]
  exact k m (by omega)
theorem Ev.last {α : Type} {g : Nat → Option α} {r : α} (h : ∀ k, g (k + 1) = some r) : Ev g r := Ev.next ⟨0, fun k _ => h k⟩ (Ev.now r)
theorem Ev.same {α : Type} {g f : Nat → Option α} {r : α} (h : ∃ K, ∀ k, K ≤ k → g k = f k) (k : Ev f r) : Ev g r := by
  obtain ⟨K, k⟩ := k
  obtain ⟨K', h⟩ := h
  exact ⟨K + K', fun n hn => (h n (by omega)).trans (k n (by omega))⟩
theorem set_take_drop {α : Type} (l : List α) (i : Nat) (h : i < l.length) (x : α) : (l.set i x).take (i + 1) = l.take i ++ [x] := by
  induction l generalizing i with
  | nil => simp at h
  | cons a l ih =>
    cases i with
    | zero => simp
    | succ i => simp only [List.set_cons_succ, List.take_succ_cons, List.cons_append]; rw [ih i (by simpa using h)]
theorem to_ev {α β : Type} (L : Nat → List α → List β → Int → Option (List β)) (c : α → β)
    (hstep : ∀ (l : List α) (acc : List β) (i : Nat) (h : i < l.length), acc.length = l.length → l.length ≤ 9223372036854775807 → ∃ K, ∀ k, K ≤ k → L (k + 1) l acc (i : Int) = L k l (acc.set i (c l[i])) ((i + 1 : Nat) : Int))
    (hend : ∀ k (l : List α) (acc : List β), L (k + 1) l acc (l.length : Int) = some acc) (l : List α) (acc : List β) (ha : acc.length = l.length) (hl : l.length ≤ 9223372036854775807) : Ev (fun k => L k l acc 0) (l.map c) := by
  have key : ∀ (d i : Nat) (acc : List β), i + d = l.length → acc.length = l.length → acc.take i = (l.take i).map c → Ev (fun k => L k l acc (i : Int)) (l.map c) := by
    intro d
    induction d with
    | zero =>
      intro i acc hi hc ht
      obtain rfl : i = l.length := by omega
      rw [List.take_of_length_le (by omega), List.take_of_length_le (by omega)] at ht
      rw [← ht]
      exact Ev.last fun k => hend k l acc
    | succ d ih =>
      intro i acc hi hc ht
      have hlt : i < l.length := by omega
      refine Ev.next (hstep l acc i hlt hc hl) (ih (i + 1) _ (by omega) (by simpa using hc) ?_)
      rw [set_take_drop _ _ (by omega), ht, List.take_succ_eq_append_getElem hlt, List.map_append]
      rfl
  exact key l.length 0 acc (by omega) ha (by simp)
theorem eq_ev {α : Type} (L : Nat → List α → List α → Int → Option Bool)
    (hstep : ∀ (l : List α) (i : Nat), i < l.length → l.length ≤ 9223372036854775807 → ∃ K, ∀ k, K ≤ k → L (k + 1) l l (i : Int) = L k l l ((i + 1 : Nat) : Int))
    (hend : ∀ k (l : List α), L (k + 1) l l (l.length : Int) = some true) (l : List α) (hl : l.length ≤ 9223372036854775807) : Ev (fun k => L k l l 0) true := by
  have key : ∀ (d i : Nat), i + d = l.length → Ev (fun k => L k l l (i : Int)) true := by
    intro d
    induction d with
    | zero =>
      intro i hi
      obtain rfl : i = l.length := by omega
      exact Ev.last fun k => hend k l
    | succ d ih => intro i hi; exact Ev.next (hstep l i (by omega) hl) (ih (i + 1) (by omega))
  exact key l.length 0 (by omega)
/-- The marks a, a + m, .. as they are laid. -/
def marks {α : Type} (v : Int → α) (m : Nat) : Nat → Int → List α
  | 0, _ => []
  | n + 1, a => v a :: marks v m n (a + m)
theorem marks_length {α : Type} (v : Int → α) (m n : Nat) (a : Int) : (marks v m n a).length = n := by
  induction n generalizing a with
  | zero => rfl
  | succ n ih => simp [marks, ih]
theorem mark_ev {α : Type} (L : Nat → List α → Int → Int → Option (Int × List α)) (v : Int → α) (m : Nat) (B : Int)
    (hstep : ∀ (l : List α) (a : Int) (i : Nat), i < l.length → 0 ≤ a → a + m ≤ B → l.length ≤ 9223372036854775807 → ∃ K, ∀ k, K ≤ k → L (k + 1) l a (i : Int) = L k (l.set i (v a)) (a + m) ((i + 1 : Nat) : Int))
    (hend : ∀ k (l : List α) (a : Int), L (k + 1) l a (l.length : Int) = some (a, l)) (l : List α) (a : Int) (h0 : 0 ≤ a) (hB : a + m * l.length ≤ B) (hl : l.length ≤ 9223372036854775807) :
    Ev (fun k => L k l a 0) (a + m * l.length, marks v m l.length a) := by
  have key : ∀ (d : Nat) (p q : List α) (a : Int), q.length = d → 0 ≤ a → a + m * d ≤ B → (p ++ q).length ≤ 9223372036854775807 → Ev (fun k => L k (p ++ q) a (p.length : Int)) (a + m * d, p ++ marks v m d a) := by
    intro d
    induction d with
    | zero =>
      intro p q a hq h0 hB hl
      obtain rfl := List.length_eq_zero_iff.1 hq
      simp only [List.append_nil, marks]
      simpa using Ev.last fun k => hend k p a
    | succ d ih =>
      intro p q a hq h0 hB hl
      obtain ⟨x, q, rfl⟩ := List.exists_cons_of_length_eq_add_one hq
      have e1 : (p ++ x :: q).set p.length (v a) = (p ++ [v a]) ++ q := by rw [List.set_append_right _ _ (Nat.le_refl _)]; simp
      have hm : a + ((m * (d + 1) : Nat) : Int) = a + m + ((m * d : Nat) : Int) := by rw [Nat.mul_succ]; omega
      have hB' : a + ((m * (d + 1) : Nat) : Int) ≤ B := by simpa using hB
      refine Ev.next (hstep (p ++ x :: q) a p.length (by simp) h0 (by omega) hl) ?_
      rw [e1]
      have hmd : ((m * d : Nat) : Int) = m * d := by simp
      have := ih (p ++ [v a]) q (a + m) (by simpa using hq) (by omega) (by omega) (by simpa using hl)
      simp only [List.length_append, List.length_singleton] at this
      have e2 : a + m * ((d + 1 : Nat) : Int) = a + m + m * (d : Int) := by
        have := hm; simp only [Int.natCast_mul] at this; exact this
      rw [e2]
      simpa [marks] using this
  simpa using key l.length [] l a rfl h0 hB (by simpa using hl)
theorem held_ev {α : Type} (L : Nat → List α → Int → Int → Option Int) (v : Int → α) (m : Nat) (B : Int)
    (hstep : ∀ (l : List α) (a : Int) (i : Nat) (h : i < l.length), 0 ≤ a → a + m ≤ B → l.length ≤ 9223372036854775807 → l[i] = v a → ∃ K, ∀ k, K ≤ k → L (k + 1) l a (i : Int) = L k l (a + m) ((i + 1 : Nat) : Int))
    (hend : ∀ k (l : List α) (a : Int), L (k + 1) l a (l.length : Int) = some a) (n : Nat) (a : Int) (h0 : 0 ≤ a) (hB : a + m * n ≤ B) (hl : n ≤ 9223372036854775807) :
    Ev (fun k => L k (marks v m n a) a 0) (a + m * n) := by
  have key : ∀ (d : Nat) (p : List α) (a : Int), 0 ≤ a → a + m * d ≤ B → p.length + d ≤ 9223372036854775807 → Ev (fun k => L k (p ++ marks v m d a) a (p.length : Int)) (a + m * d) := by
    intro d
    induction d with
    | zero =>
      intro p a h0 hB hl
      simp only [marks, List.append_nil]
      simpa using Ev.last fun k => hend k p a
    | succ d ih =>
      intro p a h0 hB hl
      have hm : a + ((m * (d + 1) : Nat) : Int) = a + m + ((m * d : Nat) : Int) := by rw [Nat.mul_succ]; omega
      have hB' : a + ((m * (d + 1) : Nat) : Int) ≤ B := by simpa using hB
      refine Ev.next (hstep (p ++ marks v m (d + 1) a) a p.length (by simp [marks_length]) h0 (by omega) (by simp [marks_length]; omega) (by simp [marks])) ?_
      have hmd : ((m * d : Nat) : Int) = m * d := by simp
      have := ih (p ++ [v a]) (a + m) (by omega) (by omega) (by simp; omega)
      simp only [List.length_append, List.length_singleton] at this
      have e2 : a + m * ((d + 1 : Nat) : Int) = a + m + m * (d : Int) := by
        have := hm; simp only [Int.natCast_mul] at this; exact this
      rw [e2]
      simpa [marks] using this
  simpa using key n [] a h0 hB (by simpa using hl)
/-- A loop over a row that ends early where p holds. -/
theorem any_ev {α β : Type} (L : Nat → Int → Option β) (l : List α) (p : α → Bool) (b c : β)
    (hstep : ∀ (i : Nat) (h : i < l.length), ∃ K, ∀ k, K ≤ k → L (k + 1) (i : Int) = if p l[i] = true then some b else L k ((i + 1 : Nat) : Int))
    (hend : ∀ k, L (k + 1) (l.length : Int) = some c) : Ev (fun k => L k 0) (if l.any p = true then b else c) := by
  have key : ∀ (d i : Nat), i + d = l.length → Ev (fun k => L k (i : Int)) (if (l.drop i).any p = true then b else c) := by
    intro d
    induction d with
    | zero =>
      intro i hi
      obtain rfl : i = l.length := by omega
      simpa using Ev.last hend
    | succ d ih =>
      intro i hi
      have hlt : i < l.length := by omega
      rw [List.drop_eq_getElem_cons hlt, List.any_cons]
      cases hp : p l[i]
      · obtain ⟨K, hK⟩ := hstep i hlt
        refine Ev.next ⟨K, fun k hk => ?_⟩ (by simpa using ih (i + 1) (by omega))
        rw [hK k hk, hp]; simp
      · obtain ⟨K, hK⟩ := hstep i hlt
        refine Ev.next (f := fun _ => some b) ⟨K, fun k hk => ?_⟩ (by simpa using Ev.now b)
        rw [hK k hk, hp]; simp
  simpa using key l.length 0 (by omega)
end Go.Proofs.YtafkcmohbgcknaaDoor
