/- Cycles of a function on a finite set: walks from each start up to what was met before; how many cycles there are of each size. No condition beyond each law's own. -/
import Derived.Test.YtafkcmohbgcknaaDoorEv
import Derived.Deep.RegionHeld
namespace Go.Proofs.YtafkcmohbgcknaaDoor
set_option linter.unusedVariables false
set_option linter.unusedSimpArgs false
section
variable {α : Type}
def itF (f : α → α) : Nat → α → α
  | 0, x => x
  | n + 1, x => itF f n (f x)
theorem itF_add (f : α → α) : ∀ (m n : Nat) (x : α), itF f (m + n) x = itF f n (itF f m x)
  | 0, n, x => by rw [Nat.zero_add]; rfl
  | m + 1, n, x => by rw [Nat.succ_add]; exact itF_add f m n (f x)
theorem itF_succ (f : α → α) (n : Nat) (x : α) : itF f (n + 1) x = f (itF f n x) := itF_add f n 1 x
theorem itF_in {f : α → α} {U : List α} (hU : ∀ x ∈ U, f x ∈ U) : ∀ (n : Nat) (x : α), x ∈ U → itF f n x ∈ U
  | 0, _, h => h
  | n + 1, x, h => itF_in hU n (f x) (hU x h)
theorem itF_mul {f : α → α} {s : Nat} {x : α} (h : itF f s x = x) : ∀ k, itF f (k * s) x = x
  | 0 => by rw [Nat.zero_mul]; rfl
  | k + 1 => by rw [Nat.succ_mul, Nat.add_comm, itF_add, h]; exact itF_mul h k
theorem nodup_inj {l : List α} (h : l.Nodup) {i j : Nat} (hi : i < l.length) (hj : j < l.length) (e : l[i] = l[j]) : i = j := by
  have hp := List.pairwise_iff_getElem.1 h
  by_cases c : i < j
  · exact absurd e (hp i j hi hj c)
  · by_cases d : j < i
    · exact absurd e.symm (hp j i hj hi d)
    · omega
theorem countP_none {p : α → Bool} {l : List α} (h : ∀ x ∈ l, p x = false) : l.countP p = 0 := by
  rw [List.countP_eq_zero]
  intro x hx
  rw [h x hx]
  simp
theorem countP_all {p : α → Bool} {l : List α} (h : ∀ x ∈ l, p x = true) : l.countP p = l.length := List.countP_eq_length.2 h
end
section
variable {α : Type} [DecidableEq α]
theorem nodup_len : ∀ (l U : List α), l.Nodup → (∀ x ∈ l, x ∈ U) → l.length ≤ U.length
  | [], _, _, _ => Nat.zero_le _
  | a :: l, U, hn, hs => by
    obtain ⟨h1, h2⟩ := List.nodup_cons.1 hn
    have ha := hs a List.mem_cons_self
    have := nodup_len l (U.erase a) h2 (fun x hx => (List.mem_erase_of_ne (fun e => h1 (by rw [← e]; exact hx))).2 (hs x (List.mem_cons_of_mem _ hx)))
    have hl := List.length_erase_of_mem ha
    have hp := List.length_pos_of_mem ha
    rw [List.length_cons]
    omega
/-- From a place on, up to what was met before: what is met, and where it ends. -/
def walkG (f : α → α) : Nat → List α → α → List α × α
  | 0, _, t => ([], t)
  | n + 1, done, t => if t ∈ done then ([], t) else (t :: (walkG f n (done ++ [t]) (f t)).1, (walkG f n (done ++ [t]) (f t)).2)
theorem walkG_facts {f : α → α} {U : List α} (hU : ∀ x ∈ U, f x ∈ U) : ∀ (n : Nat) (done : List α) (t : α), done.Nodup → (∀ x ∈ done, x ∈ U) → t ∈ U → U.length < done.length + n →
    (done ++ (walkG f n done t).1).Nodup ∧ (∀ x ∈ (walkG f n done t).1, x ∈ U) ∧ (walkG f n done t).2 ∈ done ++ (walkG f n done t).1 ∧ (∀ i (h : i < (walkG f n done t).1.length), (walkG f n done t).1[i] = itF f i t) ∧ (walkG f n done t).2 = itF f (walkG f n done t).1.length t ∧ (t ∈ done ∨ t ∈ (walkG f n done t).1)
  | 0, done, t, hn, hs, ht, hl => by
    have := nodup_len done U hn hs
    omega
  | n + 1, done, t, hn, hs, ht, hl => by
    rw [walkG]
    by_cases c : t ∈ done
    · rw [if_pos c]
      refine ⟨by simpa using hn, by simp, by simpa using c, fun i h => absurd h (by simp), rfl, .inl c⟩
    · rw [if_neg c]
      have hn' : (done ++ [t]).Nodup := by
        rw [List.nodup_append]
        exact ⟨hn, by simp, fun a ha b hb e => c (by rw [List.mem_singleton] at hb; rw [← hb, ← e]; exact ha)⟩
      obtain ⟨a1, a2, a3, a4, a5, _⟩ := walkG_facts hU n (done ++ [t]) (f t) hn' (fun x hx => by
        rcases List.mem_append.1 hx with hx | hx
        · exact hs x hx
        · rw [List.mem_singleton] at hx; rw [hx]; exact ht) (hU t ht) (by simp; omega)
      refine ⟨by simpa using a1, ?_, by simpa using a3, ?_, ?_, .inr List.mem_cons_self⟩
      · intro x hx
        rcases List.mem_cons.1 hx with hx | hx
        · rw [hx]; exact ht
        · exact a2 x hx
      · intro i h
        cases i with
        | zero => rfl
        | succ i => exact a4 i (by simpa using h)
      · exact a5
/-- The first return is behind so many steps. -/
def perB (f : α → α) (s : Nat) (x : α) : Bool := decide (0 < s) && decide (itF f s x = x) && (List.range s).all fun j => decide (j = 0) || decide (itF f j x ≠ x)
theorem perB_iff {f : α → α} {s : Nat} {x : α} : perB f s x = true ↔ 0 < s ∧ itF f s x = x ∧ ∀ j, 0 < j → j < s → itF f j x ≠ x := by
  unfold perB
  simp only [Bool.and_eq_true, decide_eq_true_eq, List.all_eq_true, List.mem_range, Bool.or_eq_true]
  constructor
  · rintro ⟨⟨h1, h2⟩, h3⟩
    exact ⟨h1, h2, fun j h0 hj => (h3 j hj).resolve_left (by omega)⟩
  · rintro ⟨h1, h2, h3⟩
    refine ⟨⟨h1, h2⟩, fun j hj => ?_⟩
    by_cases c : j = 0
    · exact .inl c
    · exact .inr (h3 j (by omega) hj)
theorem perB_one {f : α → α} {s t : Nat} {x : α} (h : perB f s x = true) (k : perB f t x = true) : s = t := by
  obtain ⟨a1, a2, a3⟩ := perB_iff.1 h
  obtain ⟨b1, b2, b3⟩ := perB_iff.1 k
  by_cases c : s < t
  · exact absurd a2 (b3 s a1 c)
  · by_cases d : t < s
    · exact absurd b2 (a3 t b1 d)
    · omega
/-- The size of the cycle that a walk closes, if it does. -/
def closeG (r : List α × α) : List Nat := if r.2 ∈ r.1 then [r.1.length - r.1.findIdx (fun x => decide (x = r.2))] else []
/-- What a walk meets: the places of the cycle that it closes return behind so many steps, no other does. -/
theorem walk_count {f : α → α} {done : List α} (hc : ∀ x ∈ done, f x ∈ done) {t : α} {r : List α × α} (h1 : (done ++ r.1).Nodup) (h3 : r.2 ∈ done ++ r.1) (h4 : ∀ i (h : i < r.1.length), r.1[i] = itF f i t) (h5 : r.2 = itF f r.1.length t) (s : Nat) :
    r.1.countP (perB f s) = s * (closeG r).count s := by
  obtain ⟨n1, n2, n3⟩ := List.nodup_append.1 h1
  have step : ∀ (i m : Nat) (h : i + m < r.1.length), itF f m (r.1[i]'(by omega)) = r.1[i + m] := by
    intro i m h
    rw [h4 i (by omega), h4 (i + m) h, ← itF_add]
  have stop : ∀ (i : Nat) (h : i < r.1.length), itF f (r.1.length - i) r.1[i] = r.2 := by
    intro i h
    rw [h4 i h, h5, ← itF_add, show i + (r.1.length - i) = r.1.length by omega]
  have inj : ∀ (i j : Nat) (hi : i < r.1.length) (hj : j < r.1.length), r.1[i] = r.1[j] → i = j := fun i j hi hj e => nodup_inj n2 hi hj e
  by_cases c : r.2 ∈ r.1
  · obtain ⟨hj⟩ : Nonempty (r.1.findIdx (fun x => decide (x = r.2)) < r.1.length) := ⟨List.findIdx_lt_length.2 ⟨r.2, c, by simp⟩⟩
    have hjv : r.1[r.1.findIdx (fun x => decide (x = r.2))] = r.2 := by
      have := List.findIdx_getElem (w := hj)
      simpa using this
    have ecl : closeG r = [r.1.length - r.1.findIdx (fun x => decide (x = r.2))] := if_pos c
    rw [ecl]
    generalize r.1.findIdx (fun x => decide (x = r.2)) = j at hj hjv
    have back : ∀ (i : Nat) (hi : i < r.1.length), j ≤ i → ∀ m, r.1.length - i ≤ m → m < r.1.length - i + (r.1.length - j) → ∃ q, ∃ hq : q < r.1.length, itF f m r.1[i] = r.1[q] ∧ q = j + (m - (r.1.length - i)) := by
      intro i hi hji m h1 h2
      have e : m = (r.1.length - i) + (m - (r.1.length - i)) := by omega
      refine ⟨j + (m - (r.1.length - i)), by omega, ?_, rfl⟩
      have e2 : itF f m r.1[i] = itF f ((r.1.length - i) + (m - (r.1.length - i))) r.1[i] := congrArg (fun z => itF f z r.1[i]) e
      rw [e2, itF_add, stop i hi, ← hjv, step j (m - (r.1.length - i)) (by omega)]
    have per : ∀ (i : Nat) (hi : i < r.1.length), j ≤ i → perB f (r.1.length - j) r.1[i] = true := by
      intro i hi hji
      refine perB_iff.2 ⟨by omega, ?_, fun m h0 hm e => ?_⟩
      · obtain ⟨q, hq, e, eq⟩ := back i hi hji (r.1.length - j) (by omega) (by omega)
        rw [e]
        congr 1
        omega
      · by_cases d : i + m < r.1.length
        · rw [step i m d] at e
          have := inj (i + m) i d hi e
          omega
        · obtain ⟨q, hq, e2, eq⟩ := back i hi hji m (by omega) (by omega)
          rw [e2] at e
          have := inj q i hq hi e
          omega
    have notper : ∀ (i : Nat) (hi : i < r.1.length), i < j → perB f s r.1[i] = false := by
      intro i hi hij
      cases q : perB f s r.1[i]
      · rfl
      · exfalso
        obtain ⟨s0, s1, _⟩ := perB_iff.1 q
        have hm := itF_mul s1 r.1.length
        have hge : r.1.length ≤ r.1.length * s := Nat.le_mul_of_pos_right _ s0
        have e : r.1.length * s = (j - i) + (r.1.length * s - (j - i)) := by omega
        rw [e, itF_add, step i (j - i) (by omega)] at hm
        have ei : i + (j - i) = j := by omega
        have hm' : itF f (r.1.length * s - (j - i)) r.1[j] = r.1[i] := by
          simpa only [ei] using hm
        -- all that the cycle's first place leads to lies in the cycle
        have all : ∀ m, ∃ q, ∃ hq : q < r.1.length, j ≤ q ∧ itF f m r.1[j] = r.1[q] := by
          intro m
          induction m with
          | zero => exact ⟨j, hj, Nat.le_refl _, rfl⟩
          | succ m ih =>
            obtain ⟨q, hq, hjq, e⟩ := ih
            rw [itF_succ, e]
            by_cases d : q + 1 < r.1.length
            · exact ⟨q + 1, d, by omega, step q 1 d⟩
            · have := stop q hq
              rw [show r.1.length - q = 1 by omega] at this
              exact ⟨j, hj, Nat.le_refl _, by rw [hjv]; exact this⟩
        obtain ⟨q, hq, hjq, e⟩ := all (r.1.length * s - (j - i))
        rw [e] at hm'
        have := inj q i hq hi hm'
        omega
    have split : r.1.countP (perB f s) = (r.1.take j).countP (perB f s) + (r.1.drop j).countP (perB f s) := by
      rw [← List.countP_append, List.take_append_drop]
    rw [split, countP_none (l := r.1.take j) (fun x hx => by
      obtain ⟨i, hi, rfl⟩ := List.getElem_of_mem hx
      rw [List.getElem_take]
      have hi' : i < j ∧ i < r.1.length := by
        rw [List.length_take] at hi
        exact ⟨by omega, by omega⟩
      exact notper i hi'.2 hi'.1), Nat.zero_add]
    by_cases d : s = r.1.length - j
    · rw [countP_all (fun x hx => by
        obtain ⟨i, hi, rfl⟩ := List.getElem_of_mem hx
        rw [List.getElem_drop, d]
        exact per (j + i) (by simp at hi; omega) (by omega)), List.length_drop, d]
      simp
    · rw [countP_none (fun x hx => by
        obtain ⟨i, hi, rfl⟩ := List.getElem_of_mem hx
        rw [List.getElem_drop]
        cases q : perB f s (r.1[j + i]'(by simp at hi; omega))
        · rfl
        · exact absurd (perB_one q (per (j + i) (by simp at hi; omega) (by omega))) d)]
      have : List.count s [r.1.length - j] = 0 := List.count_eq_zero.2 (by simpa using d)
      rw [this, Nat.mul_zero]
  · have ecl : closeG r = [] := if_neg c
    have hd : r.2 ∈ done := (List.mem_append.1 h3).resolve_right c
    rw [ecl, countP_none (fun x hx => ?_)]
    · simp
    · obtain ⟨i, hi, rfl⟩ := List.getElem_of_mem hx
      cases q : perB f s r.1[i]
      · rfl
      · exfalso
        obtain ⟨s0, s1, _⟩ := perB_iff.1 q
        have hm := itF_mul s1 r.1.length
        have hge : r.1.length ≤ r.1.length * s := Nat.le_mul_of_pos_right _ s0
        have e : r.1.length * s = (r.1.length - i) + (r.1.length * s - (r.1.length - i)) := by omega
        rw [e, itF_add, stop i hi] at hm
        have := itF_in hc (r.1.length * s - (r.1.length - i)) r.2 hd
        rw [hm] at this
        exact n3 _ this _ (List.getElem_mem hi) rfl
/-- The sizes of the cycles that walks from all starts close, in their order. -/
def szG (f : α → α) (fuel : Nat) : List α → List α → List Nat
  | [], _ => []
  | s :: ss, done => closeG (walkG f fuel done s) ++ szG f fuel ss (done ++ (walkG f fuel done s).1)
def doneG (f : α → α) (fuel : Nat) : List α → List α → List α
  | [], done => done
  | s :: ss, done => doneG f fuel ss (done ++ (walkG f fuel done s).1)
theorem walk_closed {f : α → α} {U : List α} (hU : ∀ x ∈ U, f x ∈ U) {fuel : Nat} {done : List α} (hd : done.Nodup) (hs : ∀ x ∈ done, x ∈ U) (hc : ∀ x ∈ done, f x ∈ done) {t : α} (ht : t ∈ U) (hl : U.length < done.length + fuel) :
    ∀ x ∈ done ++ (walkG f fuel done t).1, f x ∈ done ++ (walkG f fuel done t).1 := by
  obtain ⟨a1, a2, a3, a4, a5, a6⟩ := walkG_facts hU fuel done t hd hs ht hl
  intro x hx
  rcases List.mem_append.1 hx with hx | hx
  · exact List.mem_append_left _ (hc x hx)
  · obtain ⟨i, hi, rfl⟩ := List.getElem_of_mem hx
    rw [a4 i hi, ← itF_succ f]
    by_cases d : i + 1 < (walkG f fuel done t).1.length
    · rw [← a4 (i + 1) d]
      exact List.mem_append_right _ (List.getElem_mem d)
    · rw [show i + 1 = (walkG f fuel done t).1.length by omega, ← a5]
      exact a3
theorem sz_count {f : α → α} {U : List α} (hU : ∀ x ∈ U, f x ∈ U) {fuel : Nat} (hf : U.length < fuel) (s : Nat) : ∀ (ss done : List α), (∀ x ∈ ss, x ∈ U) → done.Nodup → (∀ x ∈ done, x ∈ U) → (∀ x ∈ done, f x ∈ done) →
    (doneG f fuel ss done).countP (perB f s) = done.countP (perB f s) + s * (szG f fuel ss done).count s ∧ (doneG f fuel ss done).Nodup ∧ (∀ x ∈ doneG f fuel ss done, x ∈ U) ∧ (∀ x, x ∈ ss ∨ x ∈ done → x ∈ doneG f fuel ss done) ∧ (∀ z ∈ szG f fuel ss done, 0 < z ∧ z ≤ U.length)
  | [], done, _, hd, hs, hc => ⟨by simp [doneG, szG], hd, hs, fun x h => h.resolve_left (by simp), by simp [szG]⟩
  | t :: ss, done, hss, hd, hs, hc => by
    have ht := hss t List.mem_cons_self
    obtain ⟨a1, a2, a3, a4, a5, a6⟩ := walkG_facts hU fuel done t hd hs ht (by omega)
    have hcl := walk_closed hU hd hs hc ht (show U.length < done.length + fuel by omega)
    have hs' : ∀ x ∈ done ++ (walkG f fuel done t).1, x ∈ U := fun x hx => (List.mem_append.1 hx).elim (hs x) (a2 x)
    obtain ⟨b1, b2, b3, b4, b5⟩ := sz_count hU hf s ss (done ++ (walkG f fuel done t).1) (fun x hx => hss x (List.mem_cons_of_mem _ hx)) a1 hs' hcl
    have hw := walk_count hc a1 a3 a4 a5 s
    refine ⟨?_, b2, b3, ?_, ?_⟩
    · rw [doneG, b1, szG, List.countP_append, hw, List.count_append, Nat.mul_add]
      omega
    · intro x hx
      rw [doneG]
      apply b4
      rcases hx with hx | hx
      · rcases List.mem_cons.1 hx with hx | hx
        · rw [hx]
          exact .inr (List.mem_append.2 a6)
        · exact .inl hx
      · exact .inr (List.mem_append_left _ hx)
    · intro z hz
      rw [szG] at hz
      rcases List.mem_append.1 hz with hz | hz
      · unfold closeG at hz
        split at hz
        · rename_i hm
          rw [List.mem_singleton] at hz
          have hj : (walkG f fuel done t).1.findIdx (fun x => decide (x = (walkG f fuel done t).2)) < (walkG f fuel done t).1.length := List.findIdx_lt_length.2 ⟨_, hm, by simp⟩
          have hle := nodup_len _ U (List.nodup_append.1 a1).2.1 a2
          omega
        · cases hz
      · exact b5 z hz
theorem cyc_count {f : α → α} {U : List α} (hU : ∀ x ∈ U, f x ∈ U) (hn : U.Nodup) {fuel : Nat} (hf : U.length < fuel) (s : Nat) : U.countP (perB f s) = s * (szG f fuel U []).count s := by
  obtain ⟨a1, a2, a3, a4, _⟩ := sz_count hU hf s U [] (fun _ h => h) (by simp) (by simp) (by simp)
  have hp : (doneG f fuel U []).Perm U := (List.perm_ext_iff_of_nodup a2 hn).2 fun x => ⟨a3 x, fun h => a4 x (.inl h)⟩
  rw [← hp.countP_eq, a1]
  simp
theorem cyc_sizes {f : α → α} {U : List α} (hU : ∀ x ∈ U, f x ∈ U) {fuel : Nat} (hf : U.length < fuel) : ∀ z ∈ szG f fuel U [], 0 < z ∧ z ≤ U.length :=
  (sz_count hU hf 0 U [] (fun _ h => h) (by simp) (by simp) (by simp)).2.2.2.2
/-- The place at which a walk closes a cycle returns there behind so many steps. -/
theorem walk_per {f : α → α} {t : α} {r : List α × α} (n2 : r.1.Nodup) (h4 : ∀ i (h : i < r.1.length), r.1[i] = itF f i t) (h5 : r.2 = itF f r.1.length t) (c : r.2 ∈ r.1) : perB f (r.1.length - r.1.findIdx (fun x => decide (x = r.2))) r.2 = true := by
  obtain ⟨hj⟩ : Nonempty (r.1.findIdx (fun x => decide (x = r.2)) < r.1.length) := ⟨List.findIdx_lt_length.2 ⟨r.2, c, by simp⟩⟩
  have hjv : r.1[r.1.findIdx (fun x => decide (x = r.2))] = r.2 := by
    have := List.findIdx_getElem (w := hj)
    simpa using this
  generalize r.1.findIdx (fun x => decide (x = r.2)) = j at hj hjv
  refine perB_iff.2 ⟨by omega, ?_, fun m h0 hm e => ?_⟩
  · rw [← hjv, h4 j hj, ← itF_add, show j + (r.1.length - j) = r.1.length by omega, ← h5, ← hjv, h4 j hj]
  · rw [← hjv, h4 j hj, ← itF_add, ← h4 (j + m) (by omega), ← h4 j hj] at e
    have := nodup_inj n2 (by omega) hj e
    omega
/-- One start more. -/
theorem doneG_snoc (f : α → α) (fuel : Nat) : ∀ (ss done : List α) (t : α), doneG f fuel (ss ++ [t]) done = doneG f fuel ss done ++ (walkG f fuel (doneG f fuel ss done) t).1
  | [], done, t => rfl
  | s :: ss, done, t => by
    rw [List.cons_append, doneG, doneG]
    exact doneG_snoc f fuel ss _ t
theorem szG_snoc (f : α → α) (fuel : Nat) : ∀ (ss done : List α) (t : α), szG f fuel (ss ++ [t]) done = szG f fuel ss done ++ closeG (walkG f fuel (doneG f fuel ss done) t)
  | [], done, t => by simp [szG, doneG]
  | s :: ss, done, t => by
    rw [List.cons_append, szG, szG, doneG, szG_snoc f fuel ss _ t, List.append_assoc]
/-- How many cycles there are of a size. -/
def cycN (f : α → α) (U : List α) (s : Nat) : Nat := U.countP (perB f s) / s
theorem cyc_eq {f : α → α} {U : List α} (hU : ∀ x ∈ U, f x ∈ U) (hn : U.Nodup) {fuel : Nat} (hf : U.length < fuel) (s : Nat) : (szG f fuel U []).count s = cycN f U s := by
  unfold cycN
  rw [cyc_count hU hn hf s]
  cases s with
  | zero =>
    rw [Nat.zero_mul, Nat.zero_div, List.count_eq_zero]
    exact fun h => absurd (cyc_sizes hU hf 0 h).1 (by omega)
  | succ s => rw [Nat.mul_div_cancel_left _ (by omega)]
theorem cyc_mul {f : α → α} {U : List α} (hU : ∀ x ∈ U, f x ∈ U) (hn : U.Nodup) (s : Nat) : s * cycN f U s = U.countP (perB f s) := by
  rw [← cyc_eq hU hn (Nat.lt_succ_self _), cyc_count hU hn (Nat.lt_succ_self _)]
/-- Told with other names, the cycles are the same. -/
theorem perB_conj {β : Type} [DecidableEq β] {f : α → α} {g : β → β} {φ : α → β} {U : List α} (hU : ∀ x ∈ U, f x ∈ U) (hi : ∀ x ∈ U, ∀ y ∈ U, φ x = φ y → x = y) (hg : ∀ x ∈ U, φ (f x) = g (φ x)) (s : Nat) (x : α) (hx : x ∈ U) : perB g s (φ x) = perB f s x := by
  have it : ∀ (n : Nat) (y : α), y ∈ U → itF g n (φ y) = φ (itF f n y) := by
    intro n
    induction n with
    | zero => intro y _; rfl
    | succ n ih => intro y hy; rw [itF, itF, ← hg y hy, ih (f y) (hU y hy)]
  have eqv : ∀ n, (itF g n (φ x) = φ x) ↔ (itF f n x = x) := fun n => by
    rw [it n x hx]
    exact ⟨hi _ (itF_in hU n x hx) _ hx, fun h => by rw [h]⟩
  rw [Bool.eq_iff_iff, perB_iff, perB_iff, eqv]
  constructor
  · rintro ⟨a, b, c⟩; exact ⟨a, b, fun j h0 hj h => c j h0 hj ((eqv j).2 h)⟩
  · rintro ⟨a, b, c⟩; exact ⟨a, b, fun j h0 hj h => c j h0 hj ((eqv j).1 h)⟩
theorem cycN_map {β : Type} [DecidableEq β] {f : α → α} {g : β → β} {φ : α → β} {U : List α} (hU : ∀ x ∈ U, f x ∈ U) (hi : ∀ x ∈ U, ∀ y ∈ U, φ x = φ y → x = y) (hg : ∀ x ∈ U, φ (f x) = g (φ x)) (s : Nat) : cycN g (U.map φ) s = cycN f U s := by
  unfold cycN
  rw [List.countP_map]
  congr 1
  exact List.countP_congr fun x hx => by simp only [Function.comp]; rw [perB_conj hU hi hg s x hx]
theorem cycN_perm {f : α → α} {U V : List α} (h : U.Perm V) (s : Nat) : cycN f U s = cycN f V s := by unfold cycN; rw [h.countP_eq]
/-- The rows that tell how many cycles there are of each size. -/
def cycR (N : Nat) (c : Nat → Nat) : List (List Int) := ((List.range (N + 1)).filter fun s => decide (0 < c s)).map fun s : Nat => [(s : Int), (c s : Int)]
end
end Go.Proofs.YtafkcmohbgcknaaDoor
