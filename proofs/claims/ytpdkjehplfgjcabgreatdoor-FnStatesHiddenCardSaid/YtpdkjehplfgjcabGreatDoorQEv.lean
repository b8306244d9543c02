/- Loops that the laws' own help functions make (a copy, a comparison with itself, marks laid and asked), each once for all. No condition beyond each law's own. -/
import Derived.Test.YtpdkjehplfgjcabGreatDoorQLib
namespace Go.Proofs.YtpdkjehplfgjcabGreatDoor
open Go.RowKit Go.Proofs.YtpdkjehplfgjcabGreatDoorW.PrintWords Go.Proofs.YtpdkjehplfgjcabGreatDoorW.PrintLast Go.Proofs.YtpdkjehplfgjcabGreatDoorW.PrintMore
set_option linter.unusedVariables false
set_option linter.unusedSimpArgs false
theorem w64 {a : Int} (h : -9223372036854775808 ≤ a) (h' : a ≤ 9223372036854775807) : wrap64 a = a := by unfold wrap64; omega
/-- One round more, from some number on. -/
theorem Ev.next {α : Type} {g f : Nat → Option α} {r : α} (h : ∃ K, ∀ k, K ≤ k → g (k + 1) = f k) (k : Ev f r) : Ev g r := by
  obtain ⟨K, k⟩ := k
  obtain ⟨K', h⟩ := h
  refine ⟨K + K' + 1, fun n hn => ?_⟩
  obtain ⟨m, rfl⟩ : ∃ m, n = m + 1 := ⟨n - 1, by omega⟩
  rw [h m (by omega)]
  exact k m (by omega)
theorem Ev.last {α : Type} {g : Nat → Option α} {r : α} (h : ∀ k, g (k + 1) = some r) : Ev g r := Ev.next ⟨0, fun k _ => h k⟩ (Ev.now r)
/-- A loop over a row that ends early where p holds. -/
theorem any_ev {α β : Type} (L : Nat → Int → Option β) (l : List α) (p : α → Bool) (b c : β)
    (hstep : ∀ (i : Nat) (h : i < l.length), ∃ K, ∀ k, K ≤ k → L (k + 1) (i : Int) = if p l[i] = true then some b else L k ((i + 1 : Nat) : Int))
    (hend : ∀ k, L (k + 1) (l.length : Int) = some c) : Ev (fun k => L k 0) (if l.any p = true then b else c) := by
  have key : ∀ (d i : Nat), i + d = l.length → Ev (fun k => L k (i : Int)) (if (l.drop i).any p = true then b else c) := by
    intro d
    induction d with
    | zero =>
      intro i hi
      obtain rfl : i = l.length := by omega
      simpa using Ev.last hend
    | succ d ih =>
      intro i hi
      have hlt : i < l.length := by omega
      rw [List.drop_eq_getElem_cons hlt, List.any_cons]
      cases hp : p l[i]
      · obtain ⟨K, hK⟩ := hstep i hlt
        refine Ev.next ⟨K, fun k hk => ?_⟩ (by simpa using ih (i + 1) (by omega))
        rw [hK k hk, hp]; simp
      · obtain ⟨K, hK⟩ := hstep i hlt
        refine Ev.next (f := fun _ => some b) ⟨K, fun k hk => ?_⟩ (by simpa using Ev.now b)
        rw [hK k hk, hp]; simp
  simpa using key l.length 0 (by omega)
end Go.Proofs.YtpdkjehplfgjcabGreatDoor
