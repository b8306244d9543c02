/- What the printed functions answer, function by function: plain statements, without memory. (wip/after) -/
import Derived.Test.YtpjdlobkeafacaaPAddBlockx
import Derived.Test.YtpjdlobkeafacaaEv
import Derived.Test.YtpjdlobkeafacaaState
namespace Go.Proofs.Ytpjdlobkeafacaa.PAddBlock
open Go.RowKit Go.Proofs.YtpjdlobkeafacaaW.PrintWords Go.Proofs.YtpjdlobkeafacaaW.PrintLast Go.Proofs.YtpjdlobkeafacaaW.PrintMore
set_option linter.unusedVariables false
set_option linter.unusedSimpArgs false
/-! ### after laws_szBlockS -/
theorem laws_szBlockS.eq (l : List S27) (a : Int) (h0 : 0 ≤ a) (h1 : a ≤ 1048576) (hl : l.length ≤ 9223372036854775807) : laws_szBlockS.f l a = some (if a < l.length then -1 else a - l.length) := by
  unfold laws_szBlockS.f
  rw [w64 (by omega) (by omega)]
  by_cases h : a < l.length
  · rw [if_pos (by omega), if_pos h]
  · rw [if_neg (by omega), if_neg h]


/-! ### after laws_toBlockS -/
theorem laws_toBlockS.ev (l : List S27) (hl : l.length ≤ 1048576) : Ev (fun k => laws_toBlockS.f k l) (l.map (fun x : S27 => (⟨x.f0, x.f1, x.f2, x.f3⟩ : S35))) := by
  have h1 : 0 ≤ (l.length : Int) := by omega
  have h2 : (l.length : Int).toNat ≤ 8796093022208 := by omega
  unfold laws_toBlockS.f
  simp only [if_pos h1, if_pos h2]
  refine to_ev laws_toBlockS.l0 (fun x : S27 => (⟨x.f0, x.f1, x.f2, x.f3⟩ : S35)) ?_ ?_ l _ (by simp) (by omega)
  · intro l acc i h hc hl
    refine ⟨0, fun k _ => ?_⟩
    have e : rd_T27 l (i : Int) = l[i] := by simp [rd_T27, h]
    have ew : wrap64 ((i : Int) + 1) = ((i + 1 : Nat) : Int) := by rw [w64 (by omega) (by omega)]; omega
    rw [laws_toBlockS.l0, if_pos (by omega), if_pos (by omega)]
    simp only [laws_toBlock.f, Option.bind_some, e, ew, Int.toNat_natCast]
    rw [if_pos (by omega)]
  · intro k l acc
    rw [laws_toBlockS.l0, if_neg (by omega)]


/-! ### after laws_eqBlockS -/
theorem laws_eqBlockS.ev (l : List S35) (hl : l.length ≤ 9223372036854775807) : Ev (fun k => laws_eqBlockS.f k l l) true := by
  unfold laws_eqBlockS.f
  refine Ev.congr (f := fun k => laws_eqBlockS.l0 k l l 0) (fun k => if_pos rfl) ?_
  refine eq_ev laws_eqBlockS.l0 ?_ ?_ l hl
  · intro l i h hl
    refine ⟨0, fun k _ => ?_⟩
    have ew : wrap64 ((i : Int) + 1) = ((i + 1 : Nat) : Int) := by rw [w64 (by omega) (by omega)]; omega
    rw [laws_eqBlockS.l0, if_pos (by omega), if_pos (by omega), if_pos (by omega)]
    simp [laws_eqBlock.f, ew]
  · intro k l
    rw [laws_eqBlockS.l0, if_neg (by omega)]


/-! ### after laws_markBlockS -/
theorem laws_markBlockS.ev (l : List S35) (a : Int) (h0 : 0 ≤ a) (hB : a + 4 * l.length ≤ 4611686018427387904) : Ev (fun k => laws_markBlockS.f k l a) (a + 4 * l.length, marks (fun a : Int => (⟨a, a + 1, a + 2, a + 3⟩ : S35)) 4 l.length a) := by
  unfold laws_markBlockS.f
  refine mark_ev laws_markBlockS.l0 (fun a : Int => (⟨a, a + 1, a + 2, a + 3⟩ : S35)) 4 4611686018427387904 ?_ ?_ l a h0 hB (by omega)
  · intro l a i h h0 hB hl
    refine ⟨0, fun k _ => ?_⟩
    have ew : wrap64 ((i : Int) + 1) = ((i + 1 : Nat) : Int) := by rw [w64 (by omega) (by omega)]; omega
    have e1 : wrap64 (a + 1) = a + 1 := w64 (by omega) (by omega)
    have e2 : wrap64 (a + 2) = a + 2 := w64 (by omega) (by omega)
    have e3 : wrap64 (a + 3) = a + 3 := w64 (by omega) (by omega)
    have e4 : wrap64 (a + 4) = a + 4 := w64 (by omega) (by omega)
    rw [laws_markBlockS.l0, if_pos (by omega), if_pos (by omega)]
    simp [ew, Int.add_assoc, rd_T35, List.set_set, h, e1, e2, e3, e4]
  · intro k l a
    rw [laws_markBlockS.l0, if_neg (by omega)]


/-! ### after laws_heldBlockS -/
theorem laws_heldBlockS.ev (n : Nat) (a : Int) (h0 : 0 ≤ a) (hB : a + 4 * n ≤ 4611686018427387904) : Ev (fun k => laws_heldBlockS.f k (marks (fun a : Int => (⟨a, a + 1, a + 2, a + 3⟩ : S35)) 4 n a) a) (a + 4 * n) := by
  unfold laws_heldBlockS.f
  refine held_ev laws_heldBlockS.l0 (fun a : Int => (⟨a, a + 1, a + 2, a + 3⟩ : S35)) 4 4611686018427387904 ?_ ?_ n a h0 hB (by omega)
  · intro l a i h h0 hB hl hv
    refine ⟨0, fun k _ => ?_⟩
    have ew : wrap64 ((i : Int) + 1) = ((i + 1 : Nat) : Int) := by rw [w64 (by omega) (by omega)]; omega
    have e1 : wrap64 (a + 1) = a + 1 := w64 (by omega) (by omega)
    have e2 : wrap64 (a + 2) = a + 2 := w64 (by omega) (by omega)
    have e3 : wrap64 (a + 3) = a + 3 := w64 (by omega) (by omega)
    have e4 : wrap64 (a + 4) = a + 4 := w64 (by omega) (by omega)
    have e : rd_T35 l (i : Int) = l[i] := by simp [rd_T35, h]
    rw [laws_heldBlockS.l0, if_pos (by omega), if_pos (by omega)]
    simp [e, hv, ew, Int.add_assoc, e1, e2, e3, e4]
  · intro k l a
    rw [laws_heldBlockS.l0, if_neg (by omega)]

/-! ### after laws_szIntS -/
theorem laws_szIntS.eq (l : List Int) (a : Int) (h0 : 0 ≤ a) (h1 : a ≤ 1048576) (hl : l.length ≤ 9223372036854775807) : laws_szIntS.f l a = some (if a < l.length then -1 else a - l.length) := by
  unfold laws_szIntS.f
  rw [w64 (by omega) (by omega)]
  by_cases h : a < l.length
  · rw [if_pos (by omega), if_pos h]
  · rw [if_neg (by omega), if_neg h]


/-! ### after laws_toIntS -/
theorem laws_toIntS.ev (l : List Int) (hl : l.length ≤ 1048576) : Ev (fun k => laws_toIntS.f k l) (l.map (fun x : Int => x)) := by
  have h1 : 0 ≤ (l.length : Int) := by omega
  have h2 : (l.length : Int).toNat ≤ 35184372088832 := by omega
  unfold laws_toIntS.f
  simp only [if_pos h1, if_pos h2]
  refine to_ev laws_toIntS.l0 (fun x : Int => x) ?_ ?_ l _ (by simp) (by omega)
  · intro l acc i h hc hl
    refine ⟨0, fun k _ => ?_⟩
    have e : rd l (i : Int) = l[i] := by simp [rd, h]
    have ew : wrap64 ((i : Int) + 1) = ((i + 1 : Nat) : Int) := by rw [w64 (by omega) (by omega)]; omega
    rw [laws_toIntS.l0, if_pos (by omega), if_pos (by omega)]
    simp only [Option.bind_some, e, ew, Int.toNat_natCast]
    rw [if_pos (by omega)]
  · intro k l acc
    rw [laws_toIntS.l0, if_neg (by omega)]


/-! ### after laws_eqIntS -/
theorem laws_eqIntS.ev (l : List Int) (hl : l.length ≤ 9223372036854775807) : Ev (fun k => laws_eqIntS.f k l l) true := by
  unfold laws_eqIntS.f
  refine Ev.congr (f := fun k => laws_eqIntS.l0 k l l 0) (fun k => if_pos rfl) ?_
  refine eq_ev laws_eqIntS.l0 ?_ ?_ l hl
  · intro l i h hl
    refine ⟨0, fun k _ => ?_⟩
    have ew : wrap64 ((i : Int) + 1) = ((i + 1 : Nat) : Int) := by rw [w64 (by omega) (by omega)]; omega
    rw [laws_eqIntS.l0, if_pos (by omega), if_pos (by omega), if_pos (by omega)]
    simp [ew]
  · intro k l
    rw [laws_eqIntS.l0, if_neg (by omega)]


/-! ### after laws_markIntS -/
theorem laws_markIntS.ev (l : List Int) (a : Int) (h0 : 0 ≤ a) (hB : a + 1 * l.length ≤ 4611686018427387904) : Ev (fun k => laws_markIntS.f k l a) (a + 1 * l.length, marks (fun a : Int => a) 1 l.length a) := by
  unfold laws_markIntS.f
  refine mark_ev laws_markIntS.l0 (fun a : Int => a) 1 4611686018427387904 ?_ ?_ l a h0 hB (by omega)
  · intro l a i h h0 hB hl
    refine ⟨0, fun k _ => ?_⟩
    have ew : wrap64 ((i : Int) + 1) = ((i + 1 : Nat) : Int) := by rw [w64 (by omega) (by omega)]; omega
    have e1 : wrap64 (a + 1) = a + 1 := w64 (by omega) (by omega)
    rw [laws_markIntS.l0, if_pos (by omega), if_pos (by omega)]
    simp [ew, Int.add_assoc, rd, List.set_set, h, e1]
  · intro k l a
    rw [laws_markIntS.l0, if_neg (by omega)]


/-! ### after laws_heldIntS -/
theorem laws_heldIntS.ev (n : Nat) (a : Int) (h0 : 0 ≤ a) (hB : a + 1 * n ≤ 4611686018427387904) : Ev (fun k => laws_heldIntS.f k (marks (fun a : Int => a) 1 n a) a) (a + 1 * n) := by
  unfold laws_heldIntS.f
  refine held_ev laws_heldIntS.l0 (fun a : Int => a) 1 4611686018427387904 ?_ ?_ n a h0 hB (by omega)
  · intro l a i h h0 hB hl hv
    refine ⟨0, fun k _ => ?_⟩
    have ew : wrap64 ((i : Int) + 1) = ((i + 1 : Nat) : Int) := by rw [w64 (by omega) (by omega)]; omega
    have e1 : wrap64 (a + 1) = a + 1 := w64 (by omega) (by omega)
    have e : rd l (i : Int) = l[i] := by simp [rd, h]
    rw [laws_heldIntS.l0, if_pos (by omega), if_pos (by omega)]
    simp [e, hv, ew, Int.add_assoc, e1]
  · intro k l a
    rw [laws_heldIntS.l0, if_neg (by omega)]

/-! ### after spec_l1All -/
theorem l1All_ev (l : List Int) (a b : Int) (hl : l.length ≤ 9223372036854775807) : Ev (fun k => spec_l1All.f k l a b) (!(l.any fun n => !inB n a b)) := by
  have := any_ev (fun k i => spec_l1All.l0 k a b l (l.length : Int) i) l (fun n => !inB n a b) false true (fun i h => ⟨0, fun k _ => by
    have e : rd l (i : Int) = l[i] := by simp [rd, h]
    have ew : wrap64 ((i : Int) + 1) = ((i + 1 : Nat) : Int) := by rw [w64 (by omega) (by omega)]; omega
    rw [spec_l1All.l0, if_pos (by omega), if_pos (by omega), if_pos (by omega), e, ew]
    simp only [spec_l1In.f, inB_ite, Option.bind_some]
    cases inB l[i] a b <;> simp⟩) (fun k => by rw [spec_l1All.l0, if_neg (by omega)])
  refine Ev.congr (f := fun k => spec_l1All.l0 k a b l (l.length : Int) 0) (fun k => rfl) ?_
  cases h : l.any fun n => !inB n a b <;> simpa [h] using this

/-! ### after spec_boCount -/
theorem boCount_ev (l : List Int) (bs : List S35) (hl : l.length ≤ 1000) : Ev (fun k => spec_boCount.f k l bs) (prodI l) := by
  have key : ∀ (n i : Nat) (acc : Int), i + n = l.length → Ev (fun k => spec_boCount.l0 k acc l (l.length : Int) (i : Int)) ((l.drop i).foldl (fun n x => wrap64 (n * x)) acc) := by
    intro n
    induction n with
    | zero =>
      intro i acc hi
      refine Ev.last fun k => ?_
      rw [spec_boCount.l0, if_neg (by omega), List.drop_of_length_le (by omega)]
      rfl
    | succ n ih =>
      intro i acc hi
      have hp : i < l.length := by omega
      have er : rd l (i : Int) = l[i] := by simp [rd, hp]
      rw [List.drop_eq_getElem_cons hp, List.foldl_cons]
      refine Ev.next ⟨0, fun k _ => ?_⟩ (ih (i + 1) (wrap64 (acc * l[i])) (by omega))
      have ew : wrap64 ((i : Int) + 1) = ((i + 1 : Nat) : Int) := by rw [w64 (by omega) (by omega)]; omega
      rw [spec_boCount.l0, if_pos (by omega), if_pos (by omega), if_pos (by omega), er, ew]
  exact key l.length 0 1 (by omega)

/-! ### after spec_boGood -/
theorem boGood_ev (l : List Int) (bs : List S35) (hl : l.length ≤ 9223372036854775807) (hb : bs.length ≤ 9223372036854775807) : Ev (fun k => spec_boGood.f k l bs) (areBoltsB l bs) := by
  obtain ⟨K1, h1⟩ := l1All_ev l 2 5 hl
  obtain ⟨K3, h3⟩ := any_ev (fun k i => spec_boGood.l0 k bs (bs.length : Int) i l bs) bs (fun x => !blockB l x.f0 x.f1 x.f2 x.f3) false true (fun i h => ⟨1, fun k hk => by
    obtain ⟨k, rfl⟩ : ∃ m, k = m + 1 := ⟨k - 1, by omega⟩
    have e : rd_T35 bs (i : Int) = bs[i] := by simp [rd_T35, h]
    have ew : wrap64 ((i : Int) + 1) = ((i + 1 : Nat) : Int) := by rw [w64 (by omega) (by omega)]; omega
    rw [spec_boGood.l0, if_pos (by omega), if_pos (by omega), if_pos (by omega), e, ew]
    simp only [spec_boBlock.f, Option.bind_some]
    cases blockB l bs[i].f0 bs[i].f1 bs[i].f2 bs[i].f3 <;> simp⟩) (fun k => by rw [spec_boGood.l0, if_neg (by omega)])
  unfold areBoltsB
  cases hi : inB (l.length : Int) 1 6
  · refine ⟨1, fun k hk => ?_⟩
    obtain ⟨k, rfl⟩ : ∃ m, k = m + 1 := ⟨k - 1, by omega⟩
    simp [spec_boGood.f, spec_l1In.f, inB_ite, hi, spec_boGood.j0]
  · have h6 := inB_hi hi
    obtain ⟨K2, h2⟩ := boCount_ev l bs (by omega)
    refine ⟨K1 + K2 + K3 + 1, fun k hk => ?_⟩
    obtain ⟨k, rfl⟩ : ∃ m, k = m + 1 := ⟨k - 1, by omega⟩
    simp only [spec_boGood.f, spec_l1In.f, inB_ite, hi, Option.bind_some, if_true, h1 (k + 1) (by omega), Bool.true_and]
    cases ha : l.any fun n => !inB n 2 5
    · by_cases h40 : bs.length ≤ 40
      · have hd : decide ((bs.length : Int) > 40) = false := decide_eq_false (by omega)
        simp only [Bool.not_false, if_true, hd, spec_boGood.j0, Bool.false_eq_true, if_false, h2 k (by omega), Option.bind_some, h3 k (by omega), h40, decide_true, Bool.true_and, Bool.and_true]
        by_cases hp : prodI l ≤ 1000
        · rw [if_neg (by omega)]
          cases hq : bs.any fun x => !blockB l x.f0 x.f1 x.f2 x.f3 <;> simp [hp]
        · rw [if_pos (by omega)]
          simp [hp]
      · have hd : decide ((bs.length : Int) > 40) = true := decide_eq_true (by omega)
        simp [hd, spec_boGood.j0, h40]
    · simp [spec_boGood.j0]

/-! ### after spec_l1Own -/
theorem l1Own_eq (l : List Int) (hl : l.length < 17592186044416) : spec_l1Own.f l = some l := by
  simp only [spec_l1Own.f, Option.bind_some, List.length_nil, Nat.zero_add, List.nil_append]
  exact if_pos hl

/-! ### after spec_boWithout -/
theorem boWithout_ev (l : List Int) (bs : List S35) (a : Nat) (hl : l.length ≤ 1048576) (hb : bs.length ≤ 1048576) : Ev (fun k => spec_boWithout.f k l bs (a : Int)) (l, bs.eraseIdx a) := by
  have key : ∀ (n i : Nat) (acc : List S35), i + n = bs.length → acc.length ≤ i → Ev (fun k => spec_boWithout.l0 k (a : Int) bs (bs.length : Int) (i : Int) l acc) (l, acc ++ if i ≤ a then (bs.drop i).eraseIdx (a - i) else bs.drop i) := by
    intro n
    induction n with
    | zero =>
      intro i acc hi _
      refine Ev.last fun k => ?_
      rw [spec_boWithout.l0, if_neg (by omega), List.drop_of_length_le (by omega)]
      split <;> simp
    | succ n ih =>
      intro i acc hi hacc
      have hp : i < bs.length := by omega
      have er : rd_T35 bs (i : Int) = bs[i] := by simp [rd_T35, hp]
      have ew : wrap64 ((i : Int) + 1) = ((i + 1 : Nat) : Int) := by rw [w64 (by omega) (by omega)]; omega
      rw [List.drop_eq_getElem_cons hp]
      by_cases hia : i = a
      · refine Ev.next (f := fun k => spec_boWithout.l0 k (a : Int) bs (bs.length : Int) ((i + 1 : Nat) : Int) l acc) ⟨0, fun k _ => ?_⟩ ?_
        · rw [spec_boWithout.l0, if_pos (by omega), if_pos (by omega), if_pos (by omega), if_pos (by omega), ew]
        · have := ih (i + 1) acc (by omega) (by omega)
          rw [if_neg (by omega)] at this
          subst hia
          simpa using this
      · refine Ev.next (f := fun k => spec_boWithout.l0 k (a : Int) bs (bs.length : Int) ((i + 1 : Nat) : Int) l (acc ++ [bs[i]])) ⟨0, fun k _ => ?_⟩ ?_
        · rw [spec_boWithout.l0, if_pos (by omega), if_pos (by omega), if_pos (by omega), if_neg (by omega), if_pos (by omega), er, ew]
        · have := ih (i + 1) (acc ++ [bs[i]]) (by omega) (by simp; omega)
          by_cases hlt : i ≤ a
          · obtain ⟨d, hd⟩ : ∃ d, a - i = d + 1 := ⟨a - i - 1, by omega⟩
            have hd' : a - (i + 1) = d := by omega
            rw [if_pos (by omega), hd'] at this
            rw [if_pos hlt, hd, List.eraseIdx_cons_succ]
            simpa using this
          · rw [if_neg (by omega)] at this
            rw [if_neg hlt]
            simpa using this
  obtain ⟨K, hK⟩ := key bs.length 0 [] (by omega) (by simp)
  refine ⟨K, fun k hk => ?_⟩
  simp only [spec_boWithout.f, l1Own_eq l (by omega), Option.bind_some]
  simpa using hK k hk

/-! ### after laws_szBolts -/
theorem szBolts_eq (l : List Int) (bs : List S27) (hl : l.length ≤ 9223372036854775807) (hb : bs.length ≤ 9223372036854775807) : laws_szBolts.f l bs 1048576 = some (if (1048576 : Int) < l.length + bs.length then (-1 : Int) else (1048576 : Int) - l.length - bs.length) := by
  simp only [laws_szBolts.f, laws_szIntS.eq l 1048576 (by omega) (by omega) hl, Option.bind_some]
  by_cases h : (1048576 : Int) < l.length
  · rw [if_pos h, if_pos (by omega), if_pos (by omega)]
  · rw [if_neg h, if_neg (by omega), laws_szBlockS.eq bs ((1048576 : Int) - l.length) (by omega) (by omega) hb]
    simp only [Option.bind_some]
    by_cases h2 : (1048576 : Int) - l.length < bs.length
    · rw [if_pos h2, if_pos (by omega), if_pos (by omega)]
    · rw [if_neg h2, if_neg (by omega), if_neg (by omega)]

/-! ### after laws_toBolts -/
def toBlocks (l : List S27) : List S35 := l.map fun x : S27 => (⟨x.f0, x.f1, x.f2, x.f3⟩ : S35)
theorem toBlocks_length (l : List S27) : (toBlocks l).length = l.length := List.length_map _
theorem toBolts_ev (l : List Int) (bs : List S27) (hl : l.length ≤ 1048576) (hb : bs.length ≤ 1048576) : Ev (fun k => laws_toBolts.f k l bs) (l, toBlocks bs) := by
  obtain ⟨K, hK⟩ := laws_toIntS.ev l hl
  obtain ⟨K2, hK2⟩ := laws_toBlockS.ev bs hb
  exact ⟨K + K2, fun k hk => by simp [laws_toBolts.f, hK k (by omega), hK2 k (by omega), toBlocks]⟩

/-! ### after laws_eqBolts -/
theorem eqBolts_ev (l : List Int) (bs : List S35) (hl : l.length ≤ 9223372036854775807) (hb : bs.length ≤ 9223372036854775807) : Ev (fun k => laws_eqBolts.f k l bs l bs) true := by
  obtain ⟨K, hK⟩ := laws_eqIntS.ev l hl
  obtain ⟨K2, hK2⟩ := laws_eqBlockS.ev bs hb
  exact ⟨K + K2, fun k hk => by simp [laws_eqBolts.f, hK k (by omega), hK2 k (by omega)]⟩

/-! ### after laws_markBolts -/
def markedInts (n : Nat) : List Int := marks (fun a : Int => a) 1 n 1
def markedBlocks (m n : Nat) : List S35 := marks (fun a : Int => (⟨a, a + 1, a + 2, a + 3⟩ : S35)) 4 n (1 + 1 * (m : Int))
theorem markBolts_ev (l : List Int) (bs : List S35) (hl : l.length ≤ 1048577) (hb : bs.length ≤ 1048577) : Ev (fun k => laws_markBolts.f k l bs 1) (1 + 1 * l.length + 4 * bs.length, markedInts l.length, markedBlocks l.length bs.length) := by
  obtain ⟨K, hK⟩ := laws_markIntS.ev l 1 (by omega) (by omega)
  obtain ⟨K2, hK2⟩ := laws_markBlockS.ev bs (1 + 1 * l.length) (by omega) (by omega)
  exact ⟨K + K2, fun k hk => by
    have e1 := hK k (by omega)
    have e2 := hK2 k (by omega)
    simp only at e1 e2
    simp only [laws_markBolts.f, e1, Option.bind_some, e2, markedInts, markedBlocks]⟩

/-! ### after laws_heldBolts -/
theorem heldBolts_ev (m n : Nat) (hm : m ≤ 1048577) (hn : n ≤ 1048577) : Ev (fun k => laws_heldBolts.f k (markedInts m) (markedBlocks m n) 1) (1 + 1 * m + 4 * n) := by
  obtain ⟨K, hK⟩ := laws_heldIntS.ev m 1 (by omega) (by omega)
  obtain ⟨K2, hK2⟩ := laws_heldBlockS.ev n (1 + 1 * m) (by omega) (by omega)
  exact ⟨K + K2, fun k hk => by
    have e1 := hK k (by omega)
    have e2 := hK2 k (by omega)
    simp only at e1 e2
    simp only [laws_heldBolts.f, markedInts, markedBlocks, e1, Option.bind_some]
    rw [if_neg (by omega), e2]
    simp only [Option.bind_some]
    rw [if_neg (by omega)]⟩

/-! ### after impl_AddBlock -/
def addBlockR (l : List Int) (bs : List S35) (a i b j : Int) : List Int × List S35 × Bool := if (areBoltsB l bs && blockB l a i b j && decide (bs.length < 40)) = true then (l, bs ++ [⟨a, i, b, j⟩], true) else ([], [], false)
theorem implAddBlock_eq (l : List Int) (bs : List S35) (a i b j : Int) (hl : l.length ≤ 1048576) (hb : bs.length ≤ 1048576) : impl_AddBlock.f l bs a i b j = some (addBlockR l bs a i b j) := by
  unfold addBlockR
  simp only [impl_AddBlock.f, impl_AreBolts.f, Option.bind_some, impl_Bolts_isBlock.f]
  cases h : areBoltsB l bs
  · simp
  · cases h2 : blockB l a i b j
    · simp
    · by_cases h3 : bs.length < 40
      · have hc : slices_Clone_int_int.f l = some l := if_pos (by omega)
        have hc2 : impl_Block_48.f bs = some bs := if_pos (by omega)
        have h4 : bs.length < 4398046511104 := by omega
        have h5 : ¬ (bs.length : Int) ≥ 40 := by omega
        simp only [if_true, if_neg h5, impl_Bolts_own.f, hc, hc2, Option.bind_some, if_pos h4, h3]
        simp
      · have h5 : (bs.length : Int) ≥ 40 := by omega
        simp [h5, h3]

/-! ### after spec_AddBlock -/
theorem boWithout_all (l : List Int) (bs : List S35) (hl : l.length ≤ 1048576) (hb : bs.length ≤ 1048576) : Ev (fun k => spec_boWithout.f k l bs (-1)) (l, bs) := by
  have key : ∀ (n i : Nat) (acc : List S35), i + n = bs.length → acc.length ≤ i → Ev (fun k => spec_boWithout.l0 k (-1) bs (bs.length : Int) (i : Int) l acc) (l, acc ++ bs.drop i) := by
    intro n
    induction n with
    | zero =>
      intro i acc hi _
      refine Ev.last fun k => ?_
      rw [spec_boWithout.l0, if_neg (by omega), List.drop_of_length_le (by omega)]
      simp
    | succ n ih =>
      intro i acc hi hacc
      have hp : i < bs.length := by omega
      have er : rd_T35 bs (i : Int) = bs[i] := by simp [rd_T35, hp]
      have ew : wrap64 ((i : Int) + 1) = ((i + 1 : Nat) : Int) := by rw [w64 (by omega) (by omega)]; omega
      rw [List.drop_eq_getElem_cons hp]
      refine Ev.next (f := fun k => spec_boWithout.l0 k (-1) bs (bs.length : Int) ((i + 1 : Nat) : Int) l (acc ++ [bs[i]])) ⟨0, fun k _ => ?_⟩ ?_
      · rw [spec_boWithout.l0, if_pos (by omega), if_pos (by omega), if_pos (by omega), if_neg (by omega), if_pos (by omega), er, ew]
      · have := ih (i + 1) (acc ++ [bs[i]]) (by omega) (by simp; omega)
        rw [List.append_assoc] at this
        exact this
  obtain ⟨K, hK⟩ := key bs.length 0 [] (by omega) (by simp)
  refine ⟨K, fun k hk => ?_⟩
  simp only [spec_boWithout.f, l1Own_eq l (by omega), Option.bind_some]
  simpa using hK k hk
theorem specAddBlock_ev (l : List Int) (bs : List S35) (a i b j : Int) (hl : l.length ≤ 1048576) (hb : bs.length ≤ 1048576) : Ev (fun k => spec_AddBlock.f k l bs a i b j) (addBlockR l bs a i b j) := by
  unfold addBlockR
  obtain ⟨K, hK⟩ := boGood_ev l bs (by omega) (by omega)
  obtain ⟨K2, hK2⟩ := boWithout_all l bs hl hb
  refine ⟨K + K2, fun k hk => ?_⟩
  simp only [spec_AddBlock.f, hK k (by omega), Option.bind_some, spec_boBlock.f]
  cases h : areBoltsB l bs
  · simp
  · have h40 : bs.length ≤ 40 := by
      simp only [areBoltsB, Bool.and_eq_true, decide_eq_true_eq] at h; exact h.1.1.1.2
    cases h2 : blockB l a i b j
    · simp
    · by_cases h3 : bs.length < 40
      · have h5 : ¬ (bs.length : Int) = 40 := by omega
        have h4 : bs.length < 4398046511104 := by omega
        simp only [if_true, if_neg h5, hK2 k (by omega), Option.bind_some, if_pos h4, h3]
        simp
      · have h5 : (bs.length : Int) = 40 := by omega
        simp [h5, h3]

end Go.Proofs.Ytpjdlobkeafacaa.PAddBlock
