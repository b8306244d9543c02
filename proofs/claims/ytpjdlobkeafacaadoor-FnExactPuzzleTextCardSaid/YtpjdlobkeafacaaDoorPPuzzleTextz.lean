/- What the printed functions answer, function by function: plain statements, without memory. (wip/after) -/
import Derived.Test.YtpjdlobkeafacaaDoorPPuzzleTextx
import Derived.Test.YtpjdlobkeafacaaDoorEv
import Derived.Test.YtpjdlobkeafacaaDoorState
namespace Go.Proofs.YtpjdlobkeafacaaDoor.PPuzzleText
open Go.RowKit Go.Proofs.YtpjdlobkeafacaaDoorW.PrintWords Go.Proofs.YtpjdlobkeafacaaDoorW.PrintLast Go.Proofs.YtpjdlobkeafacaaDoorW.PrintMore
set_option linter.unusedVariables false
set_option linter.unusedSimpArgs false
/-! ### after laws_szClueS -/
theorem laws_szClueS.eq (l : List S104) (a : Int) (h0 : 0 ≤ a) (h1 : a ≤ 1048576) (hl : l.length ≤ 9223372036854775807) : laws_szClueS.f l a = some (if a < l.length then -1 else a - l.length) := by
  unfold laws_szClueS.f
  rw [w64 (by omega) (by omega)]
  by_cases h : a < l.length
  · rw [if_pos (by omega), if_pos h]
  · rw [if_neg (by omega), if_neg h]


/-! ### after laws_toClueS -/
theorem laws_toClueS.ev (l : List S104) (hl : l.length ≤ 1048576) : Ev (fun k => laws_toClueS.f k l) (l.map (fun x : S104 => (⟨x.f0, x.f1, x.f2⟩ : S95))) := by
  have h1 : 0 ≤ (l.length : Int) := by omega
  have h2 : (l.length : Int).toNat ≤ 11728124029610 := by omega
  unfold laws_toClueS.f
  simp only [if_pos h1, if_pos h2]
  refine to_ev laws_toClueS.l0 (fun x : S104 => (⟨x.f0, x.f1, x.f2⟩ : S95)) ?_ ?_ l _ (by simp) (by omega)
  · intro l acc i h hc hl
    refine ⟨0, fun k _ => ?_⟩
    have e : rd_T104 l (i : Int) = l[i] := by simp [rd_T104, h]
    have ew : wrap64 ((i : Int) + 1) = ((i + 1 : Nat) : Int) := by rw [w64 (by omega) (by omega)]; omega
    rw [laws_toClueS.l0, if_pos (by omega), if_pos (by omega)]
    simp only [laws_toClue.f, Option.bind_some, e, ew, Int.toNat_natCast]
    rw [if_pos (by omega)]
  · intro k l acc
    rw [laws_toClueS.l0, if_neg (by omega)]


/-! ### after laws_eqClueS -/
theorem laws_eqClueS.ev (l : List S95) (hl : l.length ≤ 9223372036854775807) : Ev (fun k => laws_eqClueS.f k l l) true := by
  unfold laws_eqClueS.f
  refine Ev.congr (f := fun k => laws_eqClueS.l0 k l l 0) (fun k => if_pos rfl) ?_
  refine eq_ev laws_eqClueS.l0 ?_ ?_ l hl
  · intro l i h hl
    refine ⟨0, fun k _ => ?_⟩
    have ew : wrap64 ((i : Int) + 1) = ((i + 1 : Nat) : Int) := by rw [w64 (by omega) (by omega)]; omega
    rw [laws_eqClueS.l0, if_pos (by omega), if_pos (by omega), if_pos (by omega)]
    simp [laws_eqClue.f, ew]
  · intro k l
    rw [laws_eqClueS.l0, if_neg (by omega)]


/-! ### after spec_pzGood -/
theorem pzGood_ev (r : Int) (l : List S95) (hl : l.length ≤ 9223372036854775807) : Ev (fun k => spec_pzGood.f k r l) (isPuzzleB r l) := by
  have hj : ∀ b : Bool, 0 ≤ r → Ev (fun k => spec_pzGood.j0 k b r l) (if b = true then false else !(l.any fun x => !clueB r x.f0 x.f1 x.f2)) := by
    intro b hr
    cases b
    · refine Ev.next (f := fun k => spec_pzGood.l0 k l (l.length : Int) 0 r l) ⟨0, fun k _ => by rw [spec_pzGood.j0]; simp⟩ ?_
      have := any_ev (fun k i => spec_pzGood.l0 k l (l.length : Int) i r l) l (fun x => !clueB r x.f0 x.f1 x.f2) false true (fun i h => ⟨1, fun k hk => by
        obtain ⟨k, rfl⟩ : ∃ m, k = m + 1 := ⟨k - 1, by omega⟩
        have e : rd_T95 l (i : Int) = l[i] := by simp [rd_T95, h]
        have ew : wrap64 ((i : Int) + 1) = ((i + 1 : Nat) : Int) := by rw [w64 (by omega) (by omega)]; omega
        rw [spec_pzGood.l0, if_pos (by omega), if_pos (by omega), if_pos (by omega), pzClue_eq _ _ _ _ _ hr, e, ew]
        simp only [Option.bind_some]
        cases clueB r l[i].f0 l[i].f1 l[i].f2 <;> simp⟩) (fun k => by rw [spec_pzGood.l0, if_neg (by omega)])
      cases h : l.any fun x => !clueB r x.f0 x.f1 x.f2 <;> simpa [h] using this
    · refine Ev.last fun k => ?_
      rw [spec_pzGood.j0]; simp
  have e1 : ∀ k, spec_pzGood.f k r l = if inB r 1 7 = true then spec_pzGood.j0 k (decide ((l.length : Int) > 6)) r l else spec_pzGood.j0 k true r l := by
    intro k
    simp only [spec_pzGood.f, spec_pzRings.f, spec_l1In.f, inB_ite, Option.bind_some]
  refine Ev.congr e1 ?_
  unfold isPuzzleB
  cases h : inB r 1 7
  · simp only [Bool.false_and, Bool.false_eq_true, if_false]
    refine Ev.last fun k => ?_
    rw [spec_pzGood.j0]; simp
  · simp only [if_true]
    have hr := inB_lo h
    have := hj (decide ((l.length : Int) > 6)) (by omega)
    have hc : (l.any fun x => !isClueB r x.f0 x.f1 x.f2) = l.any fun x => !clueB r x.f0 x.f1 x.f2 := by simp [isClueB, h]
    rw [hc]
    by_cases h6 : l.length ≤ 6
    · have hd : decide ((l.length : Int) > 6) = false := decide_eq_false (by omega)
      rw [hd] at this ⊢
      simpa [h6] using this
    · have hd : decide ((l.length : Int) > 6) = true := decide_eq_true (by omega)
      rw [hd] at this ⊢
      simpa [h6] using this

/-! ### after laws_toPuzzle -/
def toClues (l : List S104) : List S95 := l.map fun x : S104 => (⟨x.f0, x.f1, x.f2⟩ : S95)
theorem toClues_length (l : List S104) : (toClues l).length = l.length := List.length_map _
theorem toPuzzle_ev (r : Int) (l : List S104) (hl : l.length ≤ 1048576) : Ev (fun k => laws_toPuzzle.f k r l) (r, toClues l) := by
  obtain ⟨K, hK⟩ := laws_toClueS.ev l hl
  exact ⟨K, fun k hk => by simp [laws_toPuzzle.f, hK k hk, toClues]⟩

/-! ### after laws_szPuzzle -/
theorem szPuzzle_eq (r : Int) (l : List S104) (hl : l.length ≤ 9223372036854775807) : laws_szPuzzle.f r l 1048576 = some (if (1048576 : Int) < l.length then (-1 : Int) else (1048576 : Int) - l.length) := by
  simp only [laws_szPuzzle.f, laws_szClueS.eq l 1048576 (by omega) (by omega) hl, Option.bind_some]
  by_cases h : (1048576 : Int) < l.length
  · simp [h]
  · simp only [h, if_false]
    rw [if_neg (by omega)]

/-! ### after laws_eqPuzzle -/
theorem eqPuzzle_ev (r : Int) (l : List S95) (hl : l.length ≤ 9223372036854775807) : Ev (fun k => laws_eqPuzzle.f k r l r l) true := by
  obtain ⟨K, hK⟩ := laws_eqClueS.ev l hl
  exact ⟨K, fun k hk => by simp [laws_eqPuzzle.f, hK k hk]⟩

/-! ### after impl_IsClue -/
theorem pzClueA_eq (n : Nat) (r k a b : Int) (h : 0 ≤ r) : spec_pzClue.f (n + 1) r k a b = some (clueB r k a b) := by
  simp only [spec_pzClue.f, spec_pzClue.j0, spec_l1In.f, inB_ite, Option.bind_some, and_some, clueB]
  by_cases h0 : k = 0
  · simp [h0]
  · by_cases h4 : k = 4
    · simp [h4]
    · by_cases h1 : k = 1
      · simp [h1]
      · by_cases h2 : k = 2
        · simp [h2]
        · by_cases h3 : k = 3
          · simp [h3, h]
          · simp [h0, h1, h2, h3, h4]
theorem implClueA_j0 (k : Nat) (a b : Int) (t : Bool) (c d e : Int) : impl_IsClue.j0 k a b t c d e = spec_pzClue.j0 k a b t c d e := by
  cases k with
  | zero => rfl
  | succ k => rfl
theorem implClueA_eq (n : Nat) (r k a b : Int) : impl_IsClue.f (n + 1) r k a b = some (isClueB r k a b) := by
  simp only [impl_IsClue.f, impl_in.f, inB_ite, Option.bind_some, isClueB, implClueA_j0]
  cases h : inB r 1 7
  · rfl
  · have := pzClueA_eq n r k a b (by have := inB_lo h; omega)
    simp only [spec_pzClue.f] at this
    simp [this]

/-! ### after spec_pzText -/
/-- A number below 1000 in decimal. -/
def dec3 (n : Nat) : List UInt8 := if n < 10 then [UInt8.ofNat (48 + n)] else if n < 100 then [UInt8.ofNat (48 + n / 10), UInt8.ofNat (48 + n % 10)] else [UInt8.ofNat (48 + n / 100), UInt8.ofNat (48 + n / 10 % 10), UInt8.ofNat (48 + n % 10)]
theorem dec3_eq (n : Nat) (h : n < 1000) : Lib.decDigits n = dec3 n := by
  have d1 : ∀ u, u < 10 → Lib.decDigits u = [UInt8.ofNat (48 + u)] := fun u hu => by rw [Lib.decDigits, dif_pos hu]
  have d2 : ∀ u, ¬ u < 10 → Lib.decDigits u = Lib.decDigits (u / 10) ++ [UInt8.ofNat (48 + u % 10)] := fun u hu => by rw [Lib.decDigits, dif_neg hu]
  unfold dec3
  by_cases h1 : n < 10
  · rw [if_pos h1, d1 n h1]
  · rw [if_neg h1, d2 n h1]
    by_cases h2 : n < 100
    · rw [if_pos h2, d1 _ (by omega)]; rfl
    · rw [if_neg h2, d2 _ (by omega), d1 _ (by omega), show n / 10 / 10 = n / 100 by omega]; rfl
def itS (n : Int) : ByteArray := ⟨(dec3 n.toNat).toArray⟩
theorem itS_size (n : Int) : (itS n).size ≤ 3 := by
  unfold itS dec3
  split
  · exact Nat.le_of_ble_eq_true rfl
  · split
    · exact Nat.le_of_ble_eq_true rfl
    · exact Nat.le_of_ble_eq_true rfl
theorem num_tab : ((List.range 128).all fun n => (spec_l1Num.f 4 (n : Int)).map (·.data.toList) == some (dec3 n)) = true := by decide +kernel
theorem l1Num_at (n : Int) (h0 : 0 ≤ n) (h1 : n ≤ 127) (k : Nat) (hk : 4 ≤ k) : spec_l1Num.f k n = some (itS n) := by
  obtain ⟨m, rfl⟩ : ∃ m : Nat, n = (m : Int) := ⟨n.toNat, by omega⟩
  have h4 : spec_l1Num.f 4 (m : Int) = some (itS (m : Int)) := by
    have h5 := eq_of_beq (List.all_eq_true.1 num_tab m (List.mem_range.2 (by omega)))
    obtain ⟨x, hx, hl⟩ := Option.map_eq_some_iff.1 h5
    rw [hx]
    congr 1
    apply ByteArray.ext
    apply Array.toList_inj.1
    rw [hl]
    simp [itS]
  obtain ⟨d, rfl⟩ : ∃ d, k = 4 + d := ⟨k - 4, by omega⟩
  clear hk
  induction d with
  | zero => exact h4
  | succ d ih => exact spec_l1Num.mono_l (4 + d) (m : Int) _ ih
theorem clue_small {r k a b : Int} (h1 : 1 ≤ r) (h7 : r ≤ 7) (h : clueB r k a b = true) : (0 ≤ k ∧ k ≤ 127) ∧ (0 ≤ a ∧ a ≤ 127) ∧ (0 ≤ b ∧ b ≤ 127) := by
  have e : wrap64 (r - 1) = r - 1 := w64 (by omega) (by omega)
  have e2 := shl_le r h1 h7
  unfold clueB at h
  by_cases c0 : k = 0 ∨ k = 4
  · rw [if_pos c0] at h
    simp only [Bool.and_eq_true, e] at h
    have := inB_lo h.1
    have := inB_hi h.1
    have := inB_lo h.2
    have := inB_hi h.2
    omega
  · rw [if_neg c0] at h
    by_cases c1 : k = 1
    · rw [if_pos c1] at h
      simp only [Bool.and_eq_true, beq_iff_eq] at h
      have := inB_lo h.1
      have := inB_hi h.1
      omega
    · rw [if_neg c1] at h
      by_cases c2 : k = 2
      · rw [if_pos c2] at h
        simp only [Bool.and_eq_true] at h
        have := inB_lo h.1
        have := inB_hi h.1
        have e3 : wrap64 (a - 1) = a - 1 := w64 (by omega) (by omega)
        rw [e3] at h
        have := inB_lo h.2
        have := inB_hi h.2
        omega
      · rw [if_neg c2] at h
        by_cases c3 : k = 3
        · rw [if_pos c3] at h
          simp only [Bool.and_eq_true] at h
          have := inB_lo h.1
          have := inB_hi h.1
          have := inB_lo h.2
          have := inB_hi h.2
          omega
        · rw [if_neg c3] at h; cases h
theorem puzzle_ofT {r : Int} {l : List S95} (h : isPuzzleB r l = true) : 1 ≤ r ∧ r ≤ 7 ∧ l.length ≤ 6 ∧ ∀ x ∈ l, clueB r x.f0 x.f1 x.f2 = true := by
  unfold isPuzzleB at h
  simp only [Bool.and_eq_true, decide_eq_true_eq, Bool.not_eq_true', List.any_eq_false] at h
  refine ⟨inB_lo h.1.1, inB_hi h.1.1, h.1.2, fun x hx => ?_⟩
  have := h.2 x hx
  simp only [isClueB, h.1.1, Bool.true_and, Bool.not_eq_true', Bool.not_eq_false] at this
  exact this
/-- A clue's text. -/
def clueT (x : S95) : ByteArray := (((itS x.f0 ++ (⟨#[46]⟩ : ByteArray)) ++ itS x.f1) ++ (⟨#[46]⟩ : ByteArray)) ++ itS x.f2
theorem clueT_eq (x : S95) (s0 s1 s2 : ByteArray) (h0 : s0 = itS x.f0) (h1 : s1 = itS x.f1) (h2 : s2 = itS x.f2) : clueT x = (((s0 ++ (⟨#[46]⟩ : ByteArray)) ++ s1) ++ (⟨#[46]⟩ : ByteArray)) ++ s2 := by subst h0 h1 h2; rfl
theorem size_1 (s : ByteArray) (b : UInt8) : (s ++ (⟨#[b]⟩ : ByteArray)).size = s.size + 1 := by rw [ByteArray.size_append]; rfl
theorem cat_names (s0 s1 s2 : ByteArray) : ∃ u1 u2 u3 T : ByteArray, u1 = s0 ++ (⟨#[46]⟩ : ByteArray) ∧ u2 = u1 ++ s1 ∧ u3 = u2 ++ (⟨#[46]⟩ : ByteArray) ∧ T = u3 ++ s2 ∧ u1.size = s0.size + 1 ∧ u2.size = u1.size + s1.size ∧ u3.size = u2.size + 1 ∧ T.size = u3.size + s2.size :=
  ⟨_, _, _, _, rfl, rfl, rfl, rfl, size_1 _ _, ByteArray.size_append, size_1 _ _, ByteArray.size_append⟩
theorem step_size {A1 T acc : ByteArray} {i : Nat} (es : A1.size = acc.size + 1) (hT : T.size ≤ 11) (ha : acc.size ≤ 12 * i + 20) : (A1 ++ T).size ≤ 12 * (i + 1) + 20 := by rw [ByteArray.size_append, es]; omega
theorem cat_ok {s0 s1 s2 u1 u2 u3 T : ByteArray} (z0 : s0.size ≤ 3) (z1 : s1.size ≤ 3) (z2 : s2.size ≤ 3) (y1 : u1.size = s0.size + 1) (y2 : u2.size = u1.size + s1.size) (y3 : u3.size = u2.size + 1) (y4 : T.size = u3.size + s2.size) :
    s0.size + 1 ≤ 9223372036854775807 ∧ u1.size + s1.size ≤ 9223372036854775807 ∧ u2.size + 1 ≤ 9223372036854775807 ∧ u3.size + s2.size ≤ 9223372036854775807 ∧ T.size ≤ 11 := by omega
theorem cons_size {P T : ByteArray} (ep : P.size ≤ 4) (hT : T.size ≤ 11) : (P ++ T).size ≤ 12 * 1 + 20 := by rw [ByteArray.size_append]; omega
theorem cons_ok {P T : ByteArray} (ep : P.size ≤ 4) (hT : T.size ≤ 11) : P.size + T.size ≤ 9223372036854775807 := by omega
theorem clueT_size (x : S95) : (clueT x).size ≤ 11 := by
  obtain ⟨s0, h0⟩ : ∃ s, s = itS x.f0 := ⟨_, rfl⟩
  obtain ⟨s1, h1⟩ : ∃ s, s = itS x.f1 := ⟨_, rfl⟩
  obtain ⟨s2, h2⟩ : ∃ s, s = itS x.f2 := ⟨_, rfl⟩
  have z0 := itS_size x.f0
  have z1 := itS_size x.f1
  have z2 := itS_size x.f2
  rw [← h0] at z0
  rw [← h1] at z1
  rw [← h2] at z2
  have eT := clueT_eq x s0 s1 s2 h0 h1 h2
  obtain ⟨u1, u2, u3, T, hu1, hu2, hu3, hT, y1, y2, y3, y4⟩ := cat_names s0 s1 s2
  rw [← hu1, ← hu2, ← hu3, ← hT] at eT
  rw [eT]
  exact (cat_ok z0 z1 z2 y1 y2 y3 y4).2.2.2.2
def tailT (l : List S95) : List UInt8 := (l.map fun x => 44 :: (clueT x).data.toList).flatten
theorem pzText_l0 (r : Int) (l : List S95) (h : isPuzzleB r l = true) : ∀ (m i : Nat) (acc : ByteArray), i + m = l.length → acc.size ≤ 12 * i + 20 → 1 ≤ i →
    Ev (fun k => spec_pzText.l0 k acc l (l.length : Int) (i : Int)) (acc ++ ⟨(tailT (l.drop i)).toArray⟩) := by
  obtain ⟨r1, r7, hl, hc⟩ := puzzle_ofT h
  intro m
  induction m with
  | zero =>
    intro i acc hi ha h1
    rw [List.drop_of_length_le (by omega)]
    refine Ev.last fun k => ?_
    rw [spec_pzText.l0, if_neg (by omega)]
    congr 1
    apply ByteArray.ext
    simp [tailT]
  | succ m ih =>
    intro i acc hi ha h1
    have hil : i < l.length := by omega
    have hi1 : i + 1 + m = l.length := by omega
    have w1 : acc.size + 1 ≤ 9223372036854775807 := by omega
    have w6 : ∀ (A1 T : ByteArray), A1.size = acc.size + 1 → T.size ≤ 11 → A1.size + T.size ≤ 9223372036854775807 := by intro A1 T e1 e2; omega
    have ew : wrap64 ((i : Int) + 1) = ((i + 1 : Nat) : Int) := by rw [w64 (by omega) (by omega)]; omega
    have er : rd_T95 l (i : Int) = l[i] := by simp [rd_T95, hil]
    obtain ⟨⟨a1, a2⟩, ⟨b1, b2⟩, ⟨c1, c2⟩⟩ := clue_small r1 r7 (hc l[i] (List.getElem_mem hil))
    obtain ⟨s0, q0⟩ : ∃ s, s = itS l[i].f0 := ⟨_, rfl⟩
    obtain ⟨s1, q1⟩ : ∃ s, s = itS l[i].f1 := ⟨_, rfl⟩
    obtain ⟨s2, q2⟩ : ∃ s, s = itS l[i].f2 := ⟨_, rfl⟩
    have z0 := itS_size l[i].f0
    have z1 := itS_size l[i].f1
    have z2 := itS_size l[i].f2
    rw [← q0] at z0
    rw [← q1] at z1
    rw [← q2] at z2
    have eT := clueT_eq l[i] s0 s1 s2 q0 q1 q2
    obtain ⟨u1, u2, u3, T, hu1, hu2, hu3, hT, y1, y2, y3, y4⟩ := cat_names s0 s1 s2
    rw [← hu1, ← hu2, ← hu3, ← hT] at eT
    obtain ⟨A1, hA⟩ : ∃ A, A = acc ++ (⟨#[44]⟩ : ByteArray) := ⟨_, rfl⟩
    have es : A1.size = acc.size + 1 := by rw [hA]; exact size_1 _ _
    obtain ⟨w2, w3, w4, w5, wT⟩ := cat_ok z0 z1 z2 y1 y2 y3 y4
    have hsz : (A1 ++ T).size ≤ 12 * (i + 1) + 20 := step_size es wT ha
    have ih := ih (i + 1) (A1 ++ T) hi1 hsz (Nat.le_add_left 1 i)
    have e : acc ++ ⟨(tailT (l.drop i)).toArray⟩ = (A1 ++ T) ++ ⟨(tailT (l.drop (i + 1))).toArray⟩ := by
      rw [← eT, hA]
      unfold tailT
      rw [List.drop_eq_getElem_cons hil, List.map_cons, List.flatten_cons]
      apply ByteArray.ext
      apply Array.toList_inj.1
      simp
    rw [e]
    refine Ev.next ⟨4, fun k hk => ?_⟩ ih
    have n0 := l1Num_at _ a1 a2 k hk
    have n1 := l1Num_at _ b1 b2 k hk
    have n2 := l1Num_at _ c1 c2 k hk
    rw [← q0] at n0
    rw [← q1] at n1
    rw [← q2] at n2
    have g1 : (i : Int) < (l.length : Int) := Int.ofNat_lt.2 hil
    have g2 : (0 : Int) ≤ (i : Int) := Int.natCast_nonneg i
    have g3 : (i : Int) > 0 := Int.ofNat_lt.2 h1
    have w6 := w6 A1 T es wT
    clear ih hsz ha hi h1 hi1 q0 q1 q2 eT e es y1 y2 y3 y4 z0 z1 z2
    rw [spec_pzText.l0, if_pos g1, if_pos g2, if_pos g1, if_pos g3, if_pos w1, er, n0, Option.bind_some, if_pos w2, n1, Option.bind_some, ← hu1, if_pos w3, ← hu2, if_pos w4, n2, Option.bind_some, ← hu3, if_pos w5, ← hT, ← hA, if_pos w6, ew]
/-- A puzzle's text. -/
def textB (r : Int) (l : List S95) : ByteArray := (itS r ++ (⟨#[58]⟩ : ByteArray)) ++ ⟨(Lib.join ((l.map clueT).map (·.data.toList)) [44]).toArray⟩
theorem joinT_ne (sep : List UInt8) (a : List UInt8) (r : List (List UInt8)) : Lib.join (a :: r) sep = a ++ (r.map (sep ++ ·)).flatten := by
  unfold Lib.join
  induction r generalizing a with
  | nil => simp [List.intercalate]
  | cons b r ih =>
    have e : (sep.intercalate (a :: b :: r)) = a ++ (sep ++ sep.intercalate (b :: r)) := by simp [List.intercalate]
    rw [e, ih b]
    simp
theorem pzText_ev (r : Int) (l : List S95) (h : isPuzzleB r l = true) : Ev (fun k => spec_pzText.f k r l) (textB r l) := by
  obtain ⟨r1, r7, hl, hc⟩ := puzzle_ofT h
  have zr := itS_size r
  have ep : (itS r ++ (⟨#[58]⟩ : ByteArray)).size ≤ 4 := by rw [ByteArray.size_append]; show _ + 1 ≤ 4; omega
  have key : Ev (fun k => spec_pzText.l0 k (itS r ++ (⟨#[58]⟩ : ByteArray)) l (l.length : Int) 0) (textB r l) := by
    cases l with
    | nil =>
      refine Ev.last fun k => ?_
      rw [spec_pzText.l0, if_neg (by simp)]
      congr 1
      apply ByteArray.ext
      simp [textB, Lib.join, List.intercalate]
    | cons x t =>
      obtain ⟨⟨a1, a2⟩, ⟨b1, b2⟩, ⟨c1, c2⟩⟩ := clue_small r1 r7 (hc x (by simp))
      obtain ⟨s0, q0⟩ : ∃ s, s = itS x.f0 := ⟨_, rfl⟩
      obtain ⟨s1, q1⟩ : ∃ s, s = itS x.f1 := ⟨_, rfl⟩
      obtain ⟨s2, q2⟩ : ∃ s, s = itS x.f2 := ⟨_, rfl⟩
      have z0 := itS_size x.f0
      have z1 := itS_size x.f1
      have z2 := itS_size x.f2
      rw [← q0] at z0
      rw [← q1] at z1
      rw [← q2] at z2
      have eT := clueT_eq x s0 s1 s2 q0 q1 q2
      obtain ⟨u1, u2, u3, T, hu1, hu2, hu3, hT, y1, y2, y3, y4⟩ := cat_names s0 s1 s2
      rw [← hu1, ← hu2, ← hu3, ← hT] at eT
      have er : rd_T95 (x :: t) 0 = x := rfl
      have ew : wrap64 ((0 : Int) + 1) = ((1 : Nat) : Int) := by decide +kernel
      have e : textB r (x :: t) = ((itS r ++ (⟨#[58]⟩ : ByteArray)) ++ T) ++ ⟨(tailT ((x :: t).drop 1)).toArray⟩ := by
        rw [← eT]
        unfold textB tailT
        rw [List.map_cons, List.map_cons, joinT_ne]
        apply ByteArray.ext
        apply Array.toList_inj.1
        simp [List.map_map, Function.comp_def]
      rw [e]
      obtain ⟨P, hP⟩ : ∃ P, P = itS r ++ (⟨#[58]⟩ : ByteArray) := ⟨_, rfl⟩
      rw [← hP] at ep ⊢
      clear hP zr
      obtain ⟨w2, w3, w4, w5, wT⟩ := cat_ok z0 z1 z2 y1 y2 y3 y4
      have hsz : (P ++ T).size ≤ 12 * 1 + 20 := cons_size ep wT
      have hin := pzText_l0 r (x :: t) h t.length 1 (P ++ T) (by rw [List.length_cons, Nat.add_comm]) hsz (Nat.le_refl _)
      refine Ev.next ⟨4, fun k hk => ?_⟩ hin
      have n0 := l1Num_at _ a1 a2 k hk
      have n1 := l1Num_at _ b1 b2 k hk
      have n2 := l1Num_at _ c1 c2 k hk
      rw [← q0] at n0
      rw [← q1] at n1
      rw [← q2] at n2
      have w6 : P.size + T.size ≤ 9223372036854775807 := cons_ok ep wT
      have hlp : (0 : Int) < (((x :: t).length : Nat) : Int) := Int.ofNat_lt.2 (Nat.succ_pos _)
      have g2 : (0 : Int) ≤ 0 := by decide
      have g3 : ¬ (0 : Int) > 0 := by decide
      clear q0 q1 q2 eT e hin hsz
      rw [spec_pzText.l0, if_pos hlp, if_pos g2, if_pos hlp, if_neg g3, er, n0, Option.bind_some, if_pos w2, n1, Option.bind_some, ← hu1, if_pos w3, ← hu2, if_pos w4, n2, Option.bind_some, ← hu3, if_pos w5, ← hT, if_pos w6, ew]
  obtain ⟨K, hK⟩ := key
  refine ⟨K + 4, fun k hk => ?_⟩
  have h1 := hK k (by omega)
  simp only at h1
  simp only [spec_pzText.f, l1Num_at r (by omega) (by omega) k (by omega), Option.bind_some]
  rw [if_pos (by omega)]
  exact h1

/-! ### after spec_PuzzleText -/
def textR (r : Int) (l : List S95) : ByteArray × Bool := if isPuzzleB r l = true then (textB r l, true) else (⟨#[]⟩, false)
theorem specText_ev (r : Int) (l : List S95) (hl : l.length ≤ 1048576) : Ev (fun k => spec_PuzzleText.f k r l) (textR r l) := by
  obtain ⟨K1, h1⟩ := pzGood_ev r l (by omega)
  unfold textR
  cases h : isPuzzleB r l
  · rw [h] at h1
    refine ⟨K1, fun k hk => ?_⟩
    have h1 := h1 k hk
    simp only at h1
    simp [spec_PuzzleText.f, h1]
  · rw [h] at h1
    obtain ⟨K2, h2⟩ := pzText_ev r l h
    refine ⟨K1 + K2, fun k hk => ?_⟩
    have h1 := h1 k (by omega)
    have h2 := h2 k (by omega)
    simp only at h1 h2
    simp [spec_PuzzleText.f, h1, h2]

/-! ### after impl_PuzzleText -/
theorem itoa_at (n : Int) (h0 : 0 ≤ n) (h1 : n ≤ 127) : strconv_Itoa.f n = some (itS n) := by
  unfold strconv_Itoa.f itS Lib.itoa
  rw [if_pos ⟨by omega, by omega⟩, if_neg (by omega), dec3_eq _ (by omega)]
theorem implText_l0 (r : Int) (l : List S95) (h : isPuzzleB r l = true) (ln : Int) : ∀ (m i : Nat) (acc : List ByteArray), i + m = l.length → acc = (l.take i).map clueT →
    Ev (fun k => impl_Puzzle_text.l0 k acc l (l.length : Int) (i : Int) r l) (textB r l) := by
  obtain ⟨r1, r7, hl, hc⟩ := puzzle_ofT h
  intro m
  induction m with
  | zero =>
    intro i acc hi ha
    have zr := itS_size r
    have ep : (itS r ++ (⟨#[58]⟩ : ByteArray)).size ≤ 4 := by rw [ByteArray.size_append]; show _ + 1 ≤ 4; omega
    rw [List.take_of_length_le (by omega)] at ha
    subst ha
    have hj : (Lib.join ((l.map clueT).map (·.data.toList)) [44]).length ≤ 100 := by
      cases l with
      | nil => simp [Lib.join, List.intercalate]
      | cons x t =>
        rw [List.map_cons, List.map_cons, joinT_ne]
        have hs : ∀ y, (clueT y).data.toList.length ≤ 11 := fun y => by rw [← Lib.size_eq]; exact clueT_size y
        have : ∀ (u : List S95), (((u.map clueT).map (·.data.toList)).map ([44] ++ ·)).flatten.length ≤ 12 * u.length := by
          intro u
          induction u with
          | nil => simp
          | cons y u ih =>
            have := hs y
            simp only [List.map_cons, List.flatten_cons, List.length_append, List.length_cons, List.length_nil] at ih ⊢
            omega
        have h2 := this t
        have h3 := hs x
        rw [List.length_append]
        simp only [List.length_cons] at hl
        omega
    refine Ev.last fun k => ?_
    rw [impl_Puzzle_text.l0, if_neg (by omega), itoa_at r (by omega) (by omega), Option.bind_some, if_pos (by omega)]
    unfold strings_Join.f
    rw [if_pos ⟨by simp; omega, Nat.le_trans hj (by decide)⟩, Option.bind_some, if_pos (by show _ + (Lib.join ((l.map clueT).map (·.data.toList)) [44]).toArray.size ≤ _; rw [List.size_toArray]; omega)]
    rfl
  | succ m ih =>
    intro i acc hi ha
    have hil : i < l.length := by omega
    have hi1 : i + 1 + m = l.length := by omega
    have ew : wrap64 ((i : Int) + 1) = ((i + 1 : Nat) : Int) := by rw [w64 (by omega) (by omega)]; omega
    have hal : acc.length = i := by rw [ha, List.length_map, List.length_take]; omega
    have hal2 : acc.length < 8796093022208 := by omega
    have er : rd_T95 l (i : Int) = l[i] := by simp [rd_T95, hil]
    obtain ⟨⟨a1, a2⟩, ⟨b1, b2⟩, ⟨c1, c2⟩⟩ := clue_small r1 r7 (hc l[i] (List.getElem_mem hil))
    obtain ⟨s0, q0⟩ : ∃ s, s = itS l[i].f0 := ⟨_, rfl⟩
    obtain ⟨s1, q1⟩ : ∃ s, s = itS l[i].f1 := ⟨_, rfl⟩
    obtain ⟨s2, q2⟩ : ∃ s, s = itS l[i].f2 := ⟨_, rfl⟩
    have z0 := itS_size l[i].f0
    have z1 := itS_size l[i].f1
    have z2 := itS_size l[i].f2
    rw [← q0] at z0
    rw [← q1] at z1
    rw [← q2] at z2
    have eT := clueT_eq l[i] s0 s1 s2 q0 q1 q2
    obtain ⟨u1, u2, u3, T, hu1, hu2, hu3, hT, y1, y2, y3, y4⟩ := cat_names s0 s1 s2
    rw [← hu1, ← hu2, ← hu3, ← hT] at eT
    have e : acc ++ [T] = (l.take (i + 1)).map clueT := by rw [← eT, ha, List.take_succ_eq_append_getElem hil, List.map_append]; rfl
    have hs := ih (i + 1) (acc ++ [T]) hi1 e
    have n0 := itoa_at _ a1 a2
    have n1 := itoa_at _ b1 b2
    have n2 := itoa_at _ c1 c2
    rw [← q0] at n0
    rw [← q1] at n1
    rw [← q2] at n2
    have g1 : (i : Int) < (l.length : Int) := Int.ofNat_lt.2 hil
    have g2 : (0 : Int) ≤ (i : Int) := Int.natCast_nonneg i
    obtain ⟨w2, w3, w4, w5, wT⟩ := cat_ok z0 z1 z2 y1 y2 y3 y4
    clear q0 q1 q2 eT e ha ih hal
    refine Ev.next ⟨0, fun k _ => ?_⟩ hs
    rw [impl_Puzzle_text.l0, if_pos g1, if_pos g2, if_pos g1, er, n0, Option.bind_some, if_pos w2, n1, Option.bind_some, ← hu1, if_pos w3, ← hu2, if_pos w4, n2, Option.bind_some, ← hu3, if_pos w5, ← hT, if_pos hal2, ew]
theorem implText_ev (r : Int) (l : List S95) : Ev (fun k => impl_PuzzleText.f k r l) (textR r l) := by
  unfold textR
  cases h : isPuzzleB r l
  · refine ⟨0, fun k _ => ?_⟩
    simp [impl_PuzzleText.f, impl_IsPuzzle.f, h]
  · obtain ⟨K, hK⟩ := implText_l0 r l h 0 l.length 0 [] (by omega) (by simp)
    refine ⟨K, fun k hk => ?_⟩
    have h1 := hK k hk
    simp only at h1
    have h2 : impl_Puzzle_text.f k r l = some (textB r l) := h1
    simp [impl_PuzzleText.f, impl_IsPuzzle.f, h, h2]

end Go.Proofs.YtpjdlobkeafacaaDoor.PPuzzleText
