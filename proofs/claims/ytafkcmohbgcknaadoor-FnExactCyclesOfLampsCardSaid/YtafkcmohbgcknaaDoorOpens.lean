/- What an argument that can be read as data holds, said in the print's words for kinds: one lemma a kind. No condition. -/
import Derived.Test.YtafkcmohbgcknaaDoorWWords
import Derived.Deep.Slices
import Derived.ChangeArms
import Derived.ChangeSame
namespace Go.Proofs.YtafkcmohbgcknaaDoor
open Go.RowKit Go.ChangeShapes Go.WideShapes Go.Proofs.YtafkcmohbgcknaaDoorW.PrintWords
set_option linter.unusedVariables false
set_option linter.unusedSimpArgs false

/-- Whatever cells read as a datum of type t are the cells of a value of the kind d. -/
def Opens (P : Program) {α : Type} (d : Kd α) (t : TypeId) (ok : α → Prop) : Prop :=
  ∀ {H : Type} (enc : TypeId × Value → H) (W : World) (fuel : Nat) (cs : List Value) (x : DataW H × List MemPlace),
    DataW.trod enc P W 0 (fun _ => true) true fuel t cs = some x → ∃ a : α, d.K W a cs ∧ ok a

theorem opens_int {P : Program} {t : TypeId} {k : IntKind} (hu : P.underlying t = some (.int k)) : Opens P (Kd.int k) t (fun a => (Lit.int k a).wf = true) := by
  intro H enc W fuel cs x h
  obtain ⟨n, rfl, _, hw⟩ := DataW.trod_int hu h
  exact ⟨n, rfl, hw⟩
theorem opens_bool {P : Program} {t : TypeId} (hu : P.underlying t = some .bool) : Opens P Kd.bool t (fun _ => True) := by
  intro H enc W fuel cs x h
  obtain ⟨n, rfl, _⟩ := DataW.trod_bool hu h
  exact ⟨n, rfl, trivial⟩
theorem opens_string {P : Program} {t : TypeId} (hu : P.underlying t = some .string) : Opens P Kd.string t (fun s => s.size ≤ maxLen) := by
  intro H enc W fuel cs x h
  obtain ⟨n, rfl, _, hw⟩ := DataW.trod_string hu h
  exact ⟨n, rfl, hw⟩
theorem opens_iso {P : Program} {t : TypeId} {α β : Type} {d : Kd α} {ok : α → Prop} (f : β → α) (g : α → β) (hfg : ∀ a, f (g a) = a) (h : Opens P d t ok) : Opens P (Kd.iso d f) t (fun b => ok (f b)) := by
  intro H enc W fuel cs x hx
  obtain ⟨a, hK, hok⟩ := h enc W fuel cs x hx
  exact ⟨g a, by show d.K W (f (g a)) cs; rw [hfg]; exact hK, by show ok (f (g a)); rw [hfg]; exact hok⟩
/-- A list of n things, each of which is chosen. -/
theorem list_choice {α : Type} {R : Nat → α → Prop} (n : Nat) (h : ∀ i, i < n → ∃ a, R i a) : ∃ l : List α, l.length = n ∧ ∀ i a, l[i]? = some a → R i a := by
  induction n with
  | zero => exact ⟨[], rfl, fun i a h => by simp at h⟩
  | succ n ih =>
    obtain ⟨l, hl, hr⟩ := ih (fun i hi => h i (by omega))
    obtain ⟨a, ha⟩ := h n (by omega)
    refine ⟨l ++ [a], by simp [hl], fun i b hb => ?_⟩
    rcases Nat.lt_trichotomy i n with hi | hi | hi
    · rw [List.getElem?_append_left (by omega)] at hb; exact hr i b hb
    · subst hi
      rw [← hl, List.getElem?_concat_length] at hb
      cases hb; exact ha
    · rw [List.getElem?_eq_none (by simp; omega)] at hb; cases hb
theorem opens_slice {P : Program} {t e : TypeId} {α : Type} {d : Kd α} {ok : α → Prop} (hu : P.underlying t = some (.slice e)) (hc : P.cellsOf e = d.sz) (h : Opens P d e ok) : Opens P (Kd.slice e d) t (fun l => ∀ a ∈ l, ok a) := by
  intro H enc W fuel cs x hx
  rcases Go.Deep.open_slice hu hx with ⟨rfl, _⟩ | ⟨a, len, cap, m, n, D, Pl, rfl, _, hl, hm, hmm, _, hi⟩
  · exact ⟨[], ⟨none, 0, rfl, Nat.le_refl _, rfl, by simp, fun h0 => by simp at h0⟩, by simp⟩
  · simp only [if_true] at hmm
    subst hmm
    obtain ⟨l, hll, hr⟩ := list_choice (R := fun i (b : α) => ok b ∧ ∃ c, c.length = d.sz ∧ d.K W b c ∧ ∀ j u, c[j]? = some u → W.cell? (a.add (i * d.sz + j)) = some u) len (fun i hi' => by
      obtain ⟨cs', hcs, ht⟩ := hi i (by omega)
      obtain ⟨b, hK, hok⟩ := h enc W _ _ _ ht
      obtain ⟨_, hcl, hat⟩ := World.cells?_some hcs
      refine ⟨b, hok, cs', d.K_len hK, hK, fun j u hu => ?_⟩
      have hjl : j < P.cellsOf e := by
        rw [← hcl]; exact (List.getElem?_eq_some_iff.1 hu).1
      have := hat j hjl
      rw [hc] at this
      rw [← Go.Deep.add_add, this]
      exact hu)
    subst hll
    refine ⟨l, ⟨some a, _, rfl, hl, rfl, Nat.le_trans hl (by simpa [maxLen] using hm), fun _ => ⟨a, rfl, fun j p hj => (hr j p hj).2⟩⟩, fun b hb => ?_⟩
    obtain ⟨i, hi'⟩ := List.getElem?_of_mem hb
    exact (hr i b hi').1
theorem opens_struct1 {P : Program} {t : TypeId} {f0 : Field} {α : Type} {d0 : Kd α} {ok0 : α → Prop} (hs : P.underlying t = some (.struct #[f0])) (h0 : Opens P d0 f0.type ok0)
    (o0 : f0.offset = 0) (c0 : P.cellsOf f0.type = d0.sz) (ct : P.cellsOf t = d0.sz) : Opens P d0 t ok0 := by
  intro H enc W fuel cs x hx
  obtain ⟨xs, n, _, _, hl, hxl, hf⟩ := DataW.trod_struct hs hx
  have e0 := hf 0 f0 rfl
  rw [o0, c0, List.drop_zero, List.take_of_length_le (by omega)] at e0
  have hsz : xs.length = 1 := hxl
  have hx0 : xs[0]? = some xs[0] := List.getElem?_eq_getElem (by omega)
  rw [hx0] at e0
  exact h0 enc W _ _ _ e0
theorem opens_struct2 {P : Program} {t : TypeId} {f0 f1 : Field} {α β : Type} {d0 : Kd α} {d1 : Kd β} {ok0 : α → Prop} {ok1 : β → Prop} (hs : P.underlying t = some (.struct #[f0, f1])) (h0 : Opens P d0 f0.type ok0) (h1 : Opens P d1 f1.type ok1)
    (o0 : f0.offset = 0) (o1 : f1.offset = d0.sz) (c0 : P.cellsOf f0.type = d0.sz) (c1 : P.cellsOf f1.type = d1.sz) (ct : P.cellsOf t = d0.sz + d1.sz) : Opens P (Kd.pair d0 d1) t (fun x => ok0 x.1 ∧ ok1 x.2) := by
  intro H enc W fuel cs x hx
  obtain ⟨xs, n, _, _, hl, hxl, hf⟩ := DataW.trod_struct hs hx
  have e0 := hf 0 f0 rfl
  have e1 := hf 1 f1 rfl
  rw [o0, c0, List.drop_zero] at e0
  rw [o1, c1, List.take_of_length_le (by simp; omega)] at e1
  have hsz : xs.length = 2 := hxl
  have hx0 : xs[0]? = some xs[0] := List.getElem?_eq_getElem (by omega)
  have hx1 : xs[1]? = some xs[1] := List.getElem?_eq_getElem (by omega)
  rw [hx0] at e0
  rw [hx1] at e1
  obtain ⟨a, ka, oa⟩ := h0 enc W _ _ _ e0
  obtain ⟨b, kb, ob⟩ := h1 enc W _ _ _ e1
  exact ⟨(a, b), ⟨_, _, (List.take_append_drop d0.sz cs).symm, ka, kb⟩, oa, ob⟩
theorem opens_struct3 {P : Program} {t : TypeId} {f0 f1 f2 : Field} {α β γ : Type} {d0 : Kd α} {d1 : Kd β} {d2 : Kd γ} {ok0 : α → Prop} {ok1 : β → Prop} {ok2 : γ → Prop} (hs : P.underlying t = some (.struct #[f0, f1, f2]))
    (h0 : Opens P d0 f0.type ok0) (h1 : Opens P d1 f1.type ok1) (h2 : Opens P d2 f2.type ok2) (o0 : f0.offset = 0) (o1 : f1.offset = d0.sz) (o2 : f2.offset = d0.sz + d1.sz) (c0 : P.cellsOf f0.type = d0.sz) (c1 : P.cellsOf f1.type = d1.sz) (c2 : P.cellsOf f2.type = d2.sz)
    (ct : P.cellsOf t = d0.sz + d1.sz + d2.sz) : Opens P (Kd.pair d0 (Kd.pair d1 d2)) t (fun x => ok0 x.1 ∧ ok1 x.2.1 ∧ ok2 x.2.2) := by
  intro H enc W fuel cs x hx
  obtain ⟨xs, n, _, _, hl, hxl, hf⟩ := DataW.trod_struct hs hx
  have e0 := hf 0 f0 rfl
  have e1 := hf 1 f1 rfl
  have e2 := hf 2 f2 rfl
  rw [o0, c0, List.drop_zero] at e0
  rw [o1, c1] at e1
  rw [o2, c2, List.take_of_length_le (by simp; omega), ← List.drop_drop] at e2
  have hsz : xs.length = 3 := hxl
  have hx0 : xs[0]? = some xs[0] := List.getElem?_eq_getElem (by omega)
  have hx1 : xs[1]? = some xs[1] := List.getElem?_eq_getElem (by omega)
  have hx2 : xs[2]? = some xs[2] := List.getElem?_eq_getElem (by omega)
  rw [hx0] at e0
  rw [hx1] at e1
  rw [hx2] at e2
  obtain ⟨a, ka, oa⟩ := h0 enc W _ _ _ e0
  obtain ⟨b, kb, ob⟩ := h1 enc W _ _ _ e1
  obtain ⟨c, kc, oc⟩ := h2 enc W _ _ _ e2
  exact ⟨(a, b, c), ⟨_, _, (List.take_append_drop d0.sz cs).symm, ka, _, _, (List.take_append_drop d1.sz (cs.drop d0.sz)).symm, kb, kc⟩, oa, ob, oc⟩
theorem opens_struct4 {P : Program} {t : TypeId} {f0 f1 f2 f3 : Field} {α β γ δ : Type} {d0 : Kd α} {d1 : Kd β} {d2 : Kd γ} {d3 : Kd δ} {ok0 : α → Prop} {ok1 : β → Prop} {ok2 : γ → Prop} {ok3 : δ → Prop} (hs : P.underlying t = some (.struct #[f0, f1, f2, f3]))
    (h0 : Opens P d0 f0.type ok0) (h1 : Opens P d1 f1.type ok1) (h2 : Opens P d2 f2.type ok2) (h3 : Opens P d3 f3.type ok3) (o0 : f0.offset = 0) (o1 : f1.offset = d0.sz) (o2 : f2.offset = d0.sz + d1.sz) (o3 : f3.offset = d0.sz + d1.sz + d2.sz)
    (c0 : P.cellsOf f0.type = d0.sz) (c1 : P.cellsOf f1.type = d1.sz) (c2 : P.cellsOf f2.type = d2.sz) (c3 : P.cellsOf f3.type = d3.sz)
    (ct : P.cellsOf t = d0.sz + d1.sz + d2.sz + d3.sz) : Opens P (Kd.pair d0 (Kd.pair d1 (Kd.pair d2 d3))) t (fun x => ok0 x.1 ∧ ok1 x.2.1 ∧ ok2 x.2.2.1 ∧ ok3 x.2.2.2) := by
  intro H enc W fuel cs x hx
  obtain ⟨xs, n, _, _, hl, hxl, hf⟩ := DataW.trod_struct hs hx
  have e0 := hf 0 f0 rfl
  have e1 := hf 1 f1 rfl
  have e2 := hf 2 f2 rfl
  have e3 := hf 3 f3 rfl
  rw [o0, c0, List.drop_zero] at e0
  rw [o1, c1] at e1
  rw [o2, c2, ← List.drop_drop] at e2
  rw [o3, c3, List.take_of_length_le (by simp; omega), ← List.drop_drop, ← List.drop_drop] at e3
  have hsz : xs.length = 4 := hxl
  have hx0 : xs[0]? = some xs[0] := List.getElem?_eq_getElem (by omega)
  have hx1 : xs[1]? = some xs[1] := List.getElem?_eq_getElem (by omega)
  have hx2 : xs[2]? = some xs[2] := List.getElem?_eq_getElem (by omega)
  have hx3 : xs[3]? = some xs[3] := List.getElem?_eq_getElem (by omega)
  rw [hx0] at e0
  rw [hx1] at e1
  rw [hx2] at e2
  rw [hx3] at e3
  obtain ⟨a, ka, oa⟩ := h0 enc W _ _ _ e0
  obtain ⟨b, kb, ob⟩ := h1 enc W _ _ _ e1
  obtain ⟨c, kc, oc⟩ := h2 enc W _ _ _ e2
  obtain ⟨d, kd, od⟩ := h3 enc W _ _ _ e3
  exact ⟨(a, b, c, d), ⟨_, _, (List.take_append_drop d0.sz cs).symm, ka, _, _, (List.take_append_drop d1.sz (cs.drop d0.sz)).symm, kb, _, _, (List.take_append_drop d2.sz _).symm, kc, kd⟩, oa, ob, oc, od⟩
end Go.Proofs.YtafkcmohbgcknaaDoor
