/- What the printed functions answer, function by function: plain statements, without memory. (wip/after) -/
import Derived.Test.YtpjdlobkeafacaaPNeedlessBlocksx
import Derived.Test.YtpjdlobkeafacaaEv
import Derived.Test.YtpjdlobkeafacaaState
namespace Go.Proofs.Ytpjdlobkeafacaa.PNeedlessBlocks
open Go.RowKit Go.Proofs.YtpjdlobkeafacaaW.PrintWords Go.Proofs.YtpjdlobkeafacaaW.PrintLast Go.Proofs.YtpjdlobkeafacaaW.PrintMore
set_option linter.unusedVariables false
set_option linter.unusedSimpArgs false
/-! ### after laws_szBlockS -/
theorem laws_szBlockS.eq (l : List S27) (a : Int) (h0 : 0 ≤ a) (h1 : a ≤ 1048576) (hl : l.length ≤ 9223372036854775807) : laws_szBlockS.f l a = some (if a < l.length then -1 else a - l.length) := by
  unfold laws_szBlockS.f
  rw [w64 (by omega) (by omega)]
  by_cases h : a < l.length
  · rw [if_pos (by omega), if_pos h]
  · rw [if_neg (by omega), if_neg h]


/-! ### after laws_toBlockS -/
theorem laws_toBlockS.ev (l : List S27) (hl : l.length ≤ 1048576) : Ev (fun k => laws_toBlockS.f k l) (l.map (fun x : S27 => (⟨x.f0, x.f1, x.f2, x.f3⟩ : S35))) := by
  have h1 : 0 ≤ (l.length : Int) := by omega
  have h2 : (l.length : Int).toNat ≤ 8796093022208 := by omega
  unfold laws_toBlockS.f
  simp only [if_pos h1, if_pos h2]
  refine to_ev laws_toBlockS.l0 (fun x : S27 => (⟨x.f0, x.f1, x.f2, x.f3⟩ : S35)) ?_ ?_ l _ (by simp) (by omega)
  · intro l acc i h hc hl
    refine ⟨0, fun k _ => ?_⟩
    have e : rd_T27 l (i : Int) = l[i] := by simp [rd_T27, h]
    have ew : wrap64 ((i : Int) + 1) = ((i + 1 : Nat) : Int) := by rw [w64 (by omega) (by omega)]; omega
    rw [laws_toBlockS.l0, if_pos (by omega), if_pos (by omega)]
    simp only [laws_toBlock.f, Option.bind_some, e, ew, Int.toNat_natCast]
    rw [if_pos (by omega)]
  · intro k l acc
    rw [laws_toBlockS.l0, if_neg (by omega)]


/-! ### after laws_eqBlockS -/
theorem laws_eqBlockS.ev (l : List S35) (hl : l.length ≤ 9223372036854775807) : Ev (fun k => laws_eqBlockS.f k l l) true := by
  unfold laws_eqBlockS.f
  refine Ev.congr (f := fun k => laws_eqBlockS.l0 k l l 0) (fun k => if_pos rfl) ?_
  refine eq_ev laws_eqBlockS.l0 ?_ ?_ l hl
  · intro l i h hl
    refine ⟨0, fun k _ => ?_⟩
    have ew : wrap64 ((i : Int) + 1) = ((i + 1 : Nat) : Int) := by rw [w64 (by omega) (by omega)]; omega
    rw [laws_eqBlockS.l0, if_pos (by omega), if_pos (by omega), if_pos (by omega)]
    simp [laws_eqBlock.f, ew]
  · intro k l
    rw [laws_eqBlockS.l0, if_neg (by omega)]


/-! ### after laws_markBlockS -/
theorem laws_markBlockS.ev (l : List S35) (a : Int) (h0 : 0 ≤ a) (hB : a + 4 * l.length ≤ 4611686018427387904) : Ev (fun k => laws_markBlockS.f k l a) (a + 4 * l.length, marks (fun a : Int => (⟨a, a + 1, a + 2, a + 3⟩ : S35)) 4 l.length a) := by
  unfold laws_markBlockS.f
  refine mark_ev laws_markBlockS.l0 (fun a : Int => (⟨a, a + 1, a + 2, a + 3⟩ : S35)) 4 4611686018427387904 ?_ ?_ l a h0 hB (by omega)
  · intro l a i h h0 hB hl
    refine ⟨0, fun k _ => ?_⟩
    have ew : wrap64 ((i : Int) + 1) = ((i + 1 : Nat) : Int) := by rw [w64 (by omega) (by omega)]; omega
    have e1 : wrap64 (a + 1) = a + 1 := w64 (by omega) (by omega)
    have e2 : wrap64 (a + 2) = a + 2 := w64 (by omega) (by omega)
    have e3 : wrap64 (a + 3) = a + 3 := w64 (by omega) (by omega)
    have e4 : wrap64 (a + 4) = a + 4 := w64 (by omega) (by omega)
    rw [laws_markBlockS.l0, if_pos (by omega), if_pos (by omega)]
    simp [ew, Int.add_assoc, rd_T35, List.set_set, h, e1, e2, e3, e4]
  · intro k l a
    rw [laws_markBlockS.l0, if_neg (by omega)]


/-! ### after laws_szIntS -/
theorem laws_szIntS.eq (l : List Int) (a : Int) (h0 : 0 ≤ a) (h1 : a ≤ 1048576) (hl : l.length ≤ 9223372036854775807) : laws_szIntS.f l a = some (if a < l.length then -1 else a - l.length) := by
  unfold laws_szIntS.f
  rw [w64 (by omega) (by omega)]
  by_cases h : a < l.length
  · rw [if_pos (by omega), if_pos h]
  · rw [if_neg (by omega), if_neg h]


/-! ### after laws_toIntS -/
theorem laws_toIntS.ev (l : List Int) (hl : l.length ≤ 1048576) : Ev (fun k => laws_toIntS.f k l) (l.map (fun x : Int => x)) := by
  have h1 : 0 ≤ (l.length : Int) := by omega
  have h2 : (l.length : Int).toNat ≤ 35184372088832 := by omega
  unfold laws_toIntS.f
  simp only [if_pos h1, if_pos h2]
  refine to_ev laws_toIntS.l0 (fun x : Int => x) ?_ ?_ l _ (by simp) (by omega)
  · intro l acc i h hc hl
    refine ⟨0, fun k _ => ?_⟩
    have e : rd l (i : Int) = l[i] := by simp [rd, h]
    have ew : wrap64 ((i : Int) + 1) = ((i + 1 : Nat) : Int) := by rw [w64 (by omega) (by omega)]; omega
    rw [laws_toIntS.l0, if_pos (by omega), if_pos (by omega)]
    simp only [Option.bind_some, e, ew, Int.toNat_natCast]
    rw [if_pos (by omega)]
  · intro k l acc
    rw [laws_toIntS.l0, if_neg (by omega)]


/-! ### after laws_eqIntS -/
theorem laws_eqIntS.ev (l : List Int) (hl : l.length ≤ 9223372036854775807) : Ev (fun k => laws_eqIntS.f k l l) true := by
  unfold laws_eqIntS.f
  refine Ev.congr (f := fun k => laws_eqIntS.l0 k l l 0) (fun k => if_pos rfl) ?_
  refine eq_ev laws_eqIntS.l0 ?_ ?_ l hl
  · intro l i h hl
    refine ⟨0, fun k _ => ?_⟩
    have ew : wrap64 ((i : Int) + 1) = ((i + 1 : Nat) : Int) := by rw [w64 (by omega) (by omega)]; omega
    rw [laws_eqIntS.l0, if_pos (by omega), if_pos (by omega), if_pos (by omega)]
    simp [ew]
  · intro k l
    rw [laws_eqIntS.l0, if_neg (by omega)]


/-! ### after laws_markIntS -/
theorem laws_markIntS.ev (l : List Int) (a : Int) (h0 : 0 ≤ a) (hB : a + 1 * l.length ≤ 4611686018427387904) : Ev (fun k => laws_markIntS.f k l a) (a + 1 * l.length, marks (fun a : Int => a) 1 l.length a) := by
  unfold laws_markIntS.f
  refine mark_ev laws_markIntS.l0 (fun a : Int => a) 1 4611686018427387904 ?_ ?_ l a h0 hB (by omega)
  · intro l a i h h0 hB hl
    refine ⟨0, fun k _ => ?_⟩
    have ew : wrap64 ((i : Int) + 1) = ((i + 1 : Nat) : Int) := by rw [w64 (by omega) (by omega)]; omega
    have e1 : wrap64 (a + 1) = a + 1 := w64 (by omega) (by omega)
    rw [laws_markIntS.l0, if_pos (by omega), if_pos (by omega)]
    simp [ew, Int.add_assoc, rd, List.set_set, h, e1]
  · intro k l a
    rw [laws_markIntS.l0, if_neg (by omega)]


/-! ### after laws_heldIntS -/
theorem laws_heldIntS.ev (n : Nat) (a : Int) (h0 : 0 ≤ a) (hB : a + 1 * n ≤ 4611686018427387904) : Ev (fun k => laws_heldIntS.f k (marks (fun a : Int => a) 1 n a) a) (a + 1 * n) := by
  unfold laws_heldIntS.f
  refine held_ev laws_heldIntS.l0 (fun a : Int => a) 1 4611686018427387904 ?_ ?_ n a h0 hB (by omega)
  · intro l a i h h0 hB hl hv
    refine ⟨0, fun k _ => ?_⟩
    have ew : wrap64 ((i : Int) + 1) = ((i + 1 : Nat) : Int) := by rw [w64 (by omega) (by omega)]; omega
    have e1 : wrap64 (a + 1) = a + 1 := w64 (by omega) (by omega)
    have e : rd l (i : Int) = l[i] := by simp [rd, h]
    rw [laws_heldIntS.l0, if_pos (by omega), if_pos (by omega)]
    simp [e, hv, ew, Int.add_assoc, e1]
  · intro k l a
    rw [laws_heldIntS.l0, if_neg (by omega)]

/-! ### after spec_l1All -/
theorem l1All_ev (l : List Int) (a b : Int) (hl : l.length ≤ 9223372036854775807) : Ev (fun k => spec_l1All.f k l a b) (!(l.any fun n => !inB n a b)) := by
  have := any_ev (fun k i => spec_l1All.l0 k a b l (l.length : Int) i) l (fun n => !inB n a b) false true (fun i h => ⟨0, fun k _ => by
    have e : rd l (i : Int) = l[i] := by simp [rd, h]
    have ew : wrap64 ((i : Int) + 1) = ((i + 1 : Nat) : Int) := by rw [w64 (by omega) (by omega)]; omega
    rw [spec_l1All.l0, if_pos (by omega), if_pos (by omega), if_pos (by omega), e, ew]
    simp only [spec_l1In.f, inB_ite, Option.bind_some]
    cases inB l[i] a b <;> simp⟩) (fun k => by rw [spec_l1All.l0, if_neg (by omega)])
  refine Ev.congr (f := fun k => spec_l1All.l0 k a b l (l.length : Int) 0) (fun k => rfl) ?_
  cases h : l.any fun n => !inB n a b <;> simpa [h] using this

/-! ### after spec_boCount -/
theorem boCount_ev (l : List Int) (bs : List S35) (hl : l.length ≤ 1000) : Ev (fun k => spec_boCount.f k l bs) (prodI l) := by
  have key : ∀ (n i : Nat) (acc : Int), i + n = l.length → Ev (fun k => spec_boCount.l0 k acc l (l.length : Int) (i : Int)) ((l.drop i).foldl (fun n x => wrap64 (n * x)) acc) := by
    intro n
    induction n with
    | zero =>
      intro i acc hi
      refine Ev.last fun k => ?_
      rw [spec_boCount.l0, if_neg (by omega), List.drop_of_length_le (by omega)]
      rfl
    | succ n ih =>
      intro i acc hi
      have hp : i < l.length := by omega
      have er : rd l (i : Int) = l[i] := by simp [rd, hp]
      rw [List.drop_eq_getElem_cons hp, List.foldl_cons]
      refine Ev.next ⟨0, fun k _ => ?_⟩ (ih (i + 1) (wrap64 (acc * l[i])) (by omega))
      have ew : wrap64 ((i : Int) + 1) = ((i + 1 : Nat) : Int) := by rw [w64 (by omega) (by omega)]; omega
      rw [spec_boCount.l0, if_pos (by omega), if_pos (by omega), if_pos (by omega), er, ew]
  exact key l.length 0 1 (by omega)

/-! ### after spec_boGood -/
theorem boGood_ev (l : List Int) (bs : List S35) (hl : l.length ≤ 9223372036854775807) (hb : bs.length ≤ 9223372036854775807) : Ev (fun k => spec_boGood.f k l bs) (areBoltsB l bs) := by
  obtain ⟨K1, h1⟩ := l1All_ev l 2 5 hl
  obtain ⟨K3, h3⟩ := any_ev (fun k i => spec_boGood.l0 k bs (bs.length : Int) i l bs) bs (fun x => !blockB l x.f0 x.f1 x.f2 x.f3) false true (fun i h => ⟨1, fun k hk => by
    obtain ⟨k, rfl⟩ : ∃ m, k = m + 1 := ⟨k - 1, by omega⟩
    have e : rd_T35 bs (i : Int) = bs[i] := by simp [rd_T35, h]
    have ew : wrap64 ((i : Int) + 1) = ((i + 1 : Nat) : Int) := by rw [w64 (by omega) (by omega)]; omega
    rw [spec_boGood.l0, if_pos (by omega), if_pos (by omega), if_pos (by omega), e, ew]
    simp only [spec_boBlock.f, Option.bind_some]
    cases blockB l bs[i].f0 bs[i].f1 bs[i].f2 bs[i].f3 <;> simp⟩) (fun k => by rw [spec_boGood.l0, if_neg (by omega)])
  unfold areBoltsB
  cases hi : inB (l.length : Int) 1 6
  · refine ⟨1, fun k hk => ?_⟩
    obtain ⟨k, rfl⟩ : ∃ m, k = m + 1 := ⟨k - 1, by omega⟩
    simp [spec_boGood.f, spec_l1In.f, inB_ite, hi, spec_boGood.j0]
  · have h6 := inB_hi hi
    obtain ⟨K2, h2⟩ := boCount_ev l bs (by omega)
    refine ⟨K1 + K2 + K3 + 1, fun k hk => ?_⟩
    obtain ⟨k, rfl⟩ : ∃ m, k = m + 1 := ⟨k - 1, by omega⟩
    simp only [spec_boGood.f, spec_l1In.f, inB_ite, hi, Option.bind_some, if_true, h1 (k + 1) (by omega), Bool.true_and]
    cases ha : l.any fun n => !inB n 2 5
    · by_cases h40 : bs.length ≤ 40
      · have hd : decide ((bs.length : Int) > 40) = false := decide_eq_false (by omega)
        simp only [Bool.not_false, if_true, hd, spec_boGood.j0, Bool.false_eq_true, if_false, h2 k (by omega), Option.bind_some, h3 k (by omega), h40, decide_true, Bool.true_and, Bool.and_true]
        by_cases hp : prodI l ≤ 1000
        · rw [if_neg (by omega)]
          cases hq : bs.any fun x => !blockB l x.f0 x.f1 x.f2 x.f3 <;> simp [hp]
        · rw [if_pos (by omega)]
          simp [hp]
      · have hd : decide ((bs.length : Int) > 40) = true := decide_eq_true (by omega)
        simp [hd, spec_boGood.j0, h40]
    · simp [spec_boGood.j0]

/-! ### after spec_l1Own -/
theorem l1Own_eq (l : List Int) (hl : l.length < 17592186044416) : spec_l1Own.f l = some l := by
  simp only [spec_l1Own.f, Option.bind_some, List.length_nil, Nat.zero_add, List.nil_append]
  exact if_pos hl

/-! ### after spec_boWithout -/
theorem boWithout_ev (l : List Int) (bs : List S35) (a : Nat) (hl : l.length ≤ 1048576) (hb : bs.length ≤ 1048576) : Ev (fun k => spec_boWithout.f k l bs (a : Int)) (l, bs.eraseIdx a) := by
  have key : ∀ (n i : Nat) (acc : List S35), i + n = bs.length → acc.length ≤ i → Ev (fun k => spec_boWithout.l0 k (a : Int) bs (bs.length : Int) (i : Int) l acc) (l, acc ++ if i ≤ a then (bs.drop i).eraseIdx (a - i) else bs.drop i) := by
    intro n
    induction n with
    | zero =>
      intro i acc hi _
      refine Ev.last fun k => ?_
      rw [spec_boWithout.l0, if_neg (by omega), List.drop_of_length_le (by omega)]
      split <;> simp
    | succ n ih =>
      intro i acc hi hacc
      have hp : i < bs.length := by omega
      have er : rd_T35 bs (i : Int) = bs[i] := by simp [rd_T35, hp]
      have ew : wrap64 ((i : Int) + 1) = ((i + 1 : Nat) : Int) := by rw [w64 (by omega) (by omega)]; omega
      rw [List.drop_eq_getElem_cons hp]
      by_cases hia : i = a
      · refine Ev.next (f := fun k => spec_boWithout.l0 k (a : Int) bs (bs.length : Int) ((i + 1 : Nat) : Int) l acc) ⟨0, fun k _ => ?_⟩ ?_
        · rw [spec_boWithout.l0, if_pos (by omega), if_pos (by omega), if_pos (by omega), if_pos (by omega), ew]
        · have := ih (i + 1) acc (by omega) (by omega)
          rw [if_neg (by omega)] at this
          subst hia
          simpa using this
      · refine Ev.next (f := fun k => spec_boWithout.l0 k (a : Int) bs (bs.length : Int) ((i + 1 : Nat) : Int) l (acc ++ [bs[i]])) ⟨0, fun k _ => ?_⟩ ?_
        · rw [spec_boWithout.l0, if_pos (by omega), if_pos (by omega), if_pos (by omega), if_neg (by omega), if_pos (by omega), er, ew]
        · have := ih (i + 1) (acc ++ [bs[i]]) (by omega) (by simp; omega)
          by_cases hlt : i ≤ a
          · obtain ⟨d, hd⟩ : ∃ d, a - i = d + 1 := ⟨a - i - 1, by omega⟩
            have hd' : a - (i + 1) = d := by omega
            rw [if_pos (by omega), hd'] at this
            rw [if_pos hlt, hd, List.eraseIdx_cons_succ]
            simpa using this
          · rw [if_neg (by omega)] at this
            rw [if_neg hlt]
            simpa using this
  obtain ⟨K, hK⟩ := key bs.length 0 [] (by omega) (by simp)
  refine ⟨K, fun k hk => ?_⟩
  simp only [spec_boWithout.f, l1Own_eq l (by omega), Option.bind_some]
  simpa using hK k hk

/-! ### after laws_szBolts -/
theorem szBolts_eq (l : List Int) (bs : List S27) (hl : l.length ≤ 9223372036854775807) (hb : bs.length ≤ 9223372036854775807) : laws_szBolts.f l bs 1048576 = some (if (1048576 : Int) < l.length + bs.length then (-1 : Int) else (1048576 : Int) - l.length - bs.length) := by
  simp only [laws_szBolts.f, laws_szIntS.eq l 1048576 (by omega) (by omega) hl, Option.bind_some]
  by_cases h : (1048576 : Int) < l.length
  · rw [if_pos h, if_pos (by omega), if_pos (by omega)]
  · rw [if_neg h, if_neg (by omega), laws_szBlockS.eq bs ((1048576 : Int) - l.length) (by omega) (by omega) hb]
    simp only [Option.bind_some]
    by_cases h2 : (1048576 : Int) - l.length < bs.length
    · rw [if_pos h2, if_pos (by omega), if_pos (by omega)]
    · rw [if_neg h2, if_neg (by omega), if_neg (by omega)]

/-! ### after laws_toBolts -/
def toBlocks (l : List S27) : List S35 := l.map fun x : S27 => (⟨x.f0, x.f1, x.f2, x.f3⟩ : S35)
theorem toBlocks_length (l : List S27) : (toBlocks l).length = l.length := List.length_map _
theorem toBolts_ev (l : List Int) (bs : List S27) (hl : l.length ≤ 1048576) (hb : bs.length ≤ 1048576) : Ev (fun k => laws_toBolts.f k l bs) (l, toBlocks bs) := by
  obtain ⟨K, hK⟩ := laws_toIntS.ev l hl
  obtain ⟨K2, hK2⟩ := laws_toBlockS.ev bs hb
  exact ⟨K + K2, fun k hk => by simp [laws_toBolts.f, hK k (by omega), hK2 k (by omega), toBlocks]⟩

/-! ### after laws_eqBolts -/
theorem eqBolts_ev (l : List Int) (bs : List S35) (hl : l.length ≤ 9223372036854775807) (hb : bs.length ≤ 9223372036854775807) : Ev (fun k => laws_eqBolts.f k l bs l bs) true := by
  obtain ⟨K, hK⟩ := laws_eqIntS.ev l hl
  obtain ⟨K2, hK2⟩ := laws_eqBlockS.ev bs hb
  exact ⟨K + K2, fun k hk => by simp [laws_eqBolts.f, hK k (by omega), hK2 k (by omega)]⟩

/-! ### after laws_markBolts -/
def markedInts (n : Nat) : List Int := marks (fun a : Int => a) 1 n 1
def markedBlocks (m n : Nat) : List S35 := marks (fun a : Int => (⟨a, a + 1, a + 2, a + 3⟩ : S35)) 4 n (1 + 1 * (m : Int))
theorem markBolts_ev (l : List Int) (bs : List S35) (hl : l.length ≤ 1048577) (hb : bs.length ≤ 1048577) : Ev (fun k => laws_markBolts.f k l bs 1) (1 + 1 * l.length + 4 * bs.length, markedInts l.length, markedBlocks l.length bs.length) := by
  obtain ⟨K, hK⟩ := laws_markIntS.ev l 1 (by omega) (by omega)
  obtain ⟨K2, hK2⟩ := laws_markBlockS.ev bs (1 + 1 * l.length) (by omega) (by omega)
  exact ⟨K + K2, fun k hk => by
    have e1 := hK k (by omega)
    have e2 := hK2 k (by omega)
    simp only at e1 e2
    simp only [laws_markBolts.f, e1, Option.bind_some, e2, markedInts, markedBlocks]⟩

/-! ### after spec_l1Num -/
theorem range_mul {α : Type} (p : Nat) (hp : 0 < p) (f : Nat → Nat → α) : ∀ P : Nat, (List.range (P * p)).map (fun n => f (n / p) (n % p)) = (List.range P).flatMap (fun m => (List.range p).map (f m)) := by
  intro P
  induction P with
  | zero => simp
  | succ P ih =>
    rw [Nat.succ_mul, List.range_add, List.map_append, ih, List.range_succ, List.flatMap_append]
    congr 1
    simp only [List.map_map, List.flatMap_cons, List.flatMap_nil, List.append_nil]
    apply List.map_congr_left
    intro d hd
    have hd := List.mem_range.1 hd
    simp only [Function.comp]
    rw [Nat.mul_comm, Nat.mul_add_div hp, Nat.mul_add_mod, Nat.div_eq_of_lt hd, Nat.mod_eq_of_lt hd, Nat.add_zero]
def digS (d : Nat) : ByteArray := strOfNums [48 + (d : Int)]
def stR : List Int → Nat → ByteArray
  | [], _ => ⟨#[]⟩
  | p :: r, n => stR r (n / p.toNat) ++ digS (n % p.toNat)
def stepT (p : Int) (l : List ByteArray) : List ByteArray := l.flatMap fun s => (List.range p.toNat).map fun d => s ++ digS d
def textsR : List Int → List ByteArray
  | [] => [⟨#[]⟩]
  | p :: r => stepT p (textsR r)
def prodN : List Int → Nat
  | [] => 1
  | p :: r => prodN r * p.toNat
theorem textsR_eq : ∀ r : List Int, (∀ p ∈ r, 2 ≤ p ∧ p ≤ 5) → textsR r = (List.range (prodN r)).map (stR r)
  | [], _ => rfl
  | p :: r, h => by
    have hp := h p List.mem_cons_self
    have hp' : 0 < p.toNat := by omega
    unfold textsR prodN stepT
    rw [textsR_eq r (fun q hq => h q (List.mem_cons_of_mem _ hq)), List.flatMap_map]
    exact (range_mul p.toNat hp' (fun m d => stR r m ++ digS d) (prodN r)).symm
theorem digS_size (d : Nat) : (digS d).size = 1 := rfl
theorem stR_size : ∀ (r : List Int) (n : Nat), (stR r n).size = r.length
  | [], _ => rfl
  | p :: r, n => by
    unfold stR
    rw [ByteArray.size_append, stR_size r, digS_size]; rfl
theorem prodN_le : ∀ r : List Int, (∀ p ∈ r, 2 ≤ p ∧ p ≤ 5) → prodN r ≤ 5 ^ r.length
  | [], _ => Nat.le_refl _
  | p :: r, h => by
    have hp := h p List.mem_cons_self
    unfold prodN
    rw [List.length_cons, Nat.pow_succ]
    exact Nat.mul_le_mul (prodN_le r (fun q hq => h q (List.mem_cons_of_mem _ hq))) (by omega)
theorem l1Num_ev (d : Nat) (hd : d < 10) : Ev (fun k => spec_l1Num.f k (d : Int)) (digS d) := by
  refine ⟨1, fun k hk => ?_⟩
  obtain ⟨k, rfl⟩ : ∃ m, k = m + 1 := ⟨k - 1, by omega⟩
  have e : (wrap64 (48 + (d : Int))) % 256 = 48 + (d : Int) := by rw [w64 (by omega) (by omega)]; omega
  show spec_l1Num.f (k + 1) (d : Int) = _
  rw [spec_l1Num.f, if_pos (by omega), e]; rfl

/-! ### after spec_boState -/
theorem boState_ev (l : List Int) (bs : List S35) (hp : ∀ p ∈ l, 2 ≤ p ∧ p ≤ 5) (hl : l.length ≤ 6) (n : Nat) (hn : n ≤ 100000) : Ev (fun k => spec_boState.f k l bs (n : Int)) (stR l.reverse n) := by
  have key : ∀ (i n : Nat) (out : ByteArray), i ≤ l.length → n ≤ 100000 → out.size ≤ 6 - i → Ev (fun k => spec_boState.l0 k (n : Int) out ((i : Int) - 1) l bs) (stR (l.take i).reverse n ++ out) := by
    intro i
    induction i with
    | zero =>
      intro n out _ _ _
      refine Ev.last fun k => ?_
      rw [spec_boState.l0, if_neg (by omega)]
      have : (⟨#[]⟩ : ByteArray) ++ out = out := ByteArray.empty_append
      simp only [List.take_zero, List.reverse_nil, stR, this]
    | succ i ih =>
      intro n out hi hn ho
      have hlt : i < l.length := by omega
      have er : rd l (((i + 1 : Nat) : Int) - 1) = l[i] := by
        have : (((i + 1 : Nat) : Int) - 1).toNat = i := by omega
        simp [rd, hlt, this]
      have hpi := hp l[i] (List.getElem_mem hlt)
      obtain ⟨P, hP⟩ : ∃ P : Nat, l[i] = (P : Int) := ⟨l[i].toNat, by omega⟩
      rw [hP] at hpi
      have hP2 : 2 ≤ P := by omega
      have hP5 : P ≤ 5 := by omega
      have hmod : n % P < P := Nat.mod_lt _ (by omega)
      have hdiv : n / P ≤ n := Nat.div_le_self _ _
      obtain ⟨K, hK⟩ := l1Num_ev (n % P) (by omega)
      refine Ev.next (f := fun k => spec_boState.l0 k ((n / P : Nat) : Int) (digS (n % P) ++ out) ((i : Int) - 1) l bs) ⟨K, fun k hk => ?_⟩ ?_
      · have e1 : Int.tmod (n : Int) (P : Int) = ((n % P : Nat) : Int) := by rw [Int.tmod_eq_emod_of_nonneg (by omega)]; rfl
        have e2 : wrap64 (Int.tdiv (n : Int) (P : Int)) = ((n / P : Nat) : Int) := by
          rw [Int.tdiv_eq_ediv_of_nonneg (by omega)]
          have e0 : (n : Int) / (P : Int) = ((n / P : Nat) : Int) := rfl
          rw [e0]
          generalize n / P = q at hdiv
          exact w64 (by omega) (by omega)
        have e3 : wrap64 (((i + 1 : Nat) : Int) - 1 - 1) = (i : Int) - 1 := by rw [w64 (by omega) (by omega)]; omega
        have h1 := hK k hk
        simp only at h1
        have hs : (digS (n % P)).size + out.size ≤ 9223372036854775807 := by rw [digS_size]; omega
        rw [spec_boState.l0, if_pos (by omega), if_pos (by omega), if_pos (by omega), er, hP, if_neg (by omega), e1, h1]
        simp only [Option.bind_some]
        rw [if_pos hs, e2, e3]
      · have := ih (n / P) (digS (n % P) ++ out) (by omega) (by omega) (by rw [ByteArray.size_append, digS_size]; omega)
        rw [List.take_succ_eq_append_getElem hlt, List.reverse_append]
        simp only [List.reverse_cons, List.reverse_nil, List.nil_append, List.singleton_append, stR]
        rw [hP, Int.toNat_natCast, ByteArray.append_assoc]
        exact this
  have e : wrap64 ((l.length : Int) - 1) = (l.length : Int) - 1 := w64 (by omega) (by omega)
  have := key l.length n ⟨#[]⟩ (Nat.le_refl _) hn (Nat.zero_le _)
  rw [List.take_length] at this
  refine Ev.congr (f := fun k => spec_boState.l0 k (n : Int) ⟨#[]⟩ ((l.length : Int) - 1) l bs) (fun k => by rw [spec_boState.f, e]) ?_
  have e2 : stR l.reverse n ++ (⟨#[]⟩ : ByteArray) = stR l.reverse n := ByteArray.append_empty
  rw [e2] at this
  exact this

/-! ### after spec_boFree -/
theorem boFree_ev (l : List Int) (bs : List S35) (s : ByteArray) (hb : bs.length ≤ 40) (hf : fitsB bs s = true) (hI : ∀ x ∈ bs, 0 ≤ x.f1 ∧ x.f1 ≤ 4 ∧ 0 ≤ x.f3 ∧ x.f3 ≤ 4) : Ev (fun k => spec_boFree.f k l bs s) (freeB bs s) := by
  have h8 : ∀ (a i : Int), 0 ≤ i → i ≤ 4 → ((bt s a - 48) % 256 = i ↔ (wrap64 (bt s a - 48) == i) = true) := by
    intro a i h0 h4
    have := bt_range s a
    rw [w64 (by omega) (by omega), beq_iff_eq]
    omega
  have := any_ev (fun k i => spec_boFree.l0 k s bs (bs.length : Int) i) bs (fun x => hitB s x.f0 x.f1 x.f2 x.f3) false true (fun i h => ⟨0, fun k _ => by
    have e : rd_T35 bs (i : Int) = bs[i] := by simp [rd_T35, h]
    have ew : wrap64 ((i : Int) + 1) = ((i + 1 : Nat) : Int) := by rw [w64 (by omega) (by omega)]; omega
    obtain ⟨f1, f2, f3, f4⟩ := fitsB_mem hf bs[i] (List.getElem_mem h)
    obtain ⟨i1, i2, i3, i4⟩ := hI bs[i] (List.getElem_mem h)
    rw [spec_boFree.l0, if_pos (by omega), if_pos (by omega), if_pos (by omega), e, ew, if_pos f1, if_pos f2]
    unfold hitB
    have q1 := h8 bs[i].f0 bs[i].f1 i1 i2
    have q2 := h8 bs[i].f2 bs[i].f3 i3 i4
    cases c1 : (wrap64 (bt s bs[i].f0 - 48) == bs[i].f1)
    · rw [if_neg (fun h => by rw [q1.1 h] at c1; cases c1)]; simp
    · rw [if_pos (q1.2 c1), if_pos f3, if_pos f4]
      cases c2 : (wrap64 (bt s bs[i].f2 - 48) == bs[i].f3)
      · rw [if_neg (fun h => by rw [q2.1 h] at c2; cases c2)]; simp
      · rw [if_pos (q2.2 c2)]; simp⟩) (fun k => by rw [spec_boFree.l0, if_neg (by omega)])
  refine Ev.congr (f := fun k => spec_boFree.l0 k s bs (bs.length : Int) 0) (fun k => rfl) ?_
  unfold freeB
  cases h : bs.any fun x => hitB s x.f0 x.f1 x.f2 x.f3 <;> simpa [h] using this

/-! ### after spec_boAll -/
/-- What good bolts give. -/
structure boOk (l : List Int) (bs : List S35) : Prop where
  places : ∀ p ∈ l, 2 ≤ p ∧ p ≤ 5
  len : l.length ≤ 6
  blocks : bs.length ≤ 40
  fits : ∀ s : ByteArray, s.size = l.length → fitsB bs s = true
  vals : ∀ x ∈ bs, 0 ≤ x.f1 ∧ x.f1 ≤ 4 ∧ 0 ≤ x.f3 ∧ x.f3 ≤ 4
  count : prodI l = (prodN l.reverse : Int)
theorem boOk.places' {l : List Int} {bs : List S35} (h : boOk l bs) : ∀ p ∈ l.reverse, 2 ≤ p ∧ p ≤ 5 := fun p hp => h.places p (List.mem_reverse.1 hp)
theorem boOk.few {l : List Int} {bs : List S35} (h : boOk l bs) : prodN l.reverse ≤ 15625 := by
  have h1 := prodN_le l.reverse h.places'
  have h2 : 5 ^ l.reverse.length ≤ 5 ^ 6 := Nat.pow_le_pow_right (by omega) (by rw [List.length_reverse]; exact h.len)
  omega
def allowedT (l : List Int) (bs : List S35) : List ByteArray := (textsR l.reverse).filter (freeB bs)
theorem boAll_ev (l : List Int) (bs : List S35) (h : boOk l bs) : Ev (fun k => spec_boAll.f k l bs) (allowedT l bs) := by
  have hP := h.few
  obtain ⟨K1, h1⟩ := boCount_ev l bs (by have := h.len; omega)
  rw [h.count] at h1
  have key : ∀ (m n : Nat) (acc : List ByteArray), n + m = prodN l.reverse → acc.length ≤ n → Ev (fun k => spec_boAll.l0 k acc (n : Int) l bs) (acc ++ ((List.range' n m).map (stR l.reverse)).filter (freeB bs)) := by
    intro m
    induction m with
    | zero =>
      intro n acc hn ha
      refine Ev.next (f := fun _ => some acc) ⟨K1, fun k hk => ?_⟩ (by simpa using Ev.now acc)
      have h1 := h1 k hk
      simp only at h1
      rw [spec_boAll.l0, h1]
      simp only [Option.bind_some]
      rw [if_neg (by omega)]
    | succ m ih =>
      intro n acc hn ha
      obtain ⟨K2, h2⟩ := boState_ev l bs h.places h.len n (by omega)
      obtain ⟨K3, h3⟩ := boFree_ev l bs (stR l.reverse n) h.blocks (h.fits _ (by rw [stR_size, List.length_reverse])) h.vals
      have ew : wrap64 ((n : Int) + 1) = ((n + 1 : Nat) : Int) := by rw [w64 (by omega) (by omega)]; omega
      rw [List.range'_succ, List.map_cons, List.filter_cons]
      have hstep : ∀ k, K1 + K2 + K3 ≤ k → spec_boAll.l0 (k + 1) acc (n : Int) l bs = if freeB bs (stR l.reverse n) = true then spec_boAll.l0 k (acc ++ [stR l.reverse n]) ((n + 1 : Nat) : Int) l bs else spec_boAll.l0 k acc ((n + 1 : Nat) : Int) l bs := fun k hk => by
        have h1 := h1 k (by omega)
        have h2 := h2 k (by omega)
        have h3 := h3 k (by omega)
        simp only at h1 h2 h3
        rw [spec_boAll.l0, h1]
        simp only [Option.bind_some]
        rw [if_pos (by omega), h2]
        simp only [Option.bind_some]
        rw [h3]
        simp only [Option.bind_some]
        rw [if_pos (show acc.length < 8796093022208 by omega), ew]
      cases hq : freeB bs (stR l.reverse n)
      · refine Ev.next ⟨K1 + K2 + K3, fun k hk => ?_⟩ (by simpa using ih (n + 1) acc (by omega) (by omega))
        rw [hstep k hk, hq]; simp
      · refine Ev.next (f := fun k => spec_boAll.l0 k (acc ++ [stR l.reverse n]) ((n + 1 : Nat) : Int) l bs) ⟨K1 + K2 + K3, fun k hk => ?_⟩ ?_
        · rw [hstep k hk, hq]; simp
        · have := ih (n + 1) (acc ++ [stR l.reverse n]) (by omega) (by simp; omega)
          rw [List.append_assoc] at this
          exact this
  have := key (prodN l.reverse) 0 [] (by omega) (by simp)
  refine Ev.congr (f := fun k => spec_boAll.l0 k [] ((0 : Nat) : Int) l bs) (fun k => rfl) ?_
  unfold allowedT
  rw [textsR_eq _ h.places', List.range_eq_range']
  simpa using this

/-! ### after impl_Bolts_states -/
theorem stepT_nil (p : Int) : stepT p [] = [] := rfl
theorem stepT_cons (p : Int) (s : ByteArray) (r : List ByteArray) : stepT p (s :: r) = ((List.range p.toNat).map fun d => s ++ digS d) ++ stepT p r := by unfold stepT; rw [List.flatMap_cons]
theorem textsR_size {r : List Int} (hr : ∀ p ∈ r, 2 ≤ p ∧ p ≤ 5) (s : ByteArray) (hs : s ∈ textsR r) : s.size = r.length := by
  rw [textsR_eq r hr] at hs
  obtain ⟨n, _, rfl⟩ := List.mem_map.1 hs
  exact stR_size r n
theorem textsR_length {r : List Int} (hr : ∀ p ∈ r, 2 ≤ p ∧ p ≤ 5) : (textsR r).length = prodN r := by rw [textsR_eq r hr]; simp
theorem states_l2 (l : List Int) (bs : List S35) (p P : Nat) (hP : P ≤ 5) (x12 : List Int) (x13 x14 x19 x20 : Int) (x18 : List ByteArray) (s : ByteArray) (hs : s.size ≤ 10) (R : List ByteArray) : ∀ (m d : Nat) (acc : List ByteArray), d + m = P → acc.length + m ≤ 1000000 →
    Ev (fun k => impl_Bolts_states.l1 k (p : Int) (acc ++ (List.range' d m).map fun d => s ++ digS d) x12 x13 x14 x18 x19 (wrap64 (x20 + 1)) l bs) R → Ev (fun k => impl_Bolts_states.l2 k (p : Int) acc s x12 x13 x14 x18 x19 x20 (P : Int) (d : Int) l bs) R := by
  intro m
  induction m with
  | zero =>
    intro d acc hd ha hR
    refine Ev.next ⟨0, fun k _ => ?_⟩ (by simpa using hR)
    rw [impl_Bolts_states.l2, if_neg (by omega)]
  | succ m ih =>
    intro d acc hd ha hR
    refine Ev.next (f := fun k => impl_Bolts_states.l2 k (p : Int) (acc ++ [s ++ digS d]) s x12 x13 x14 x18 x19 x20 (P : Int) ((d + 1 : Nat) : Int) l bs) ⟨0, fun k _ => ?_⟩ (ih (d + 1) _ (by omega) (by simp; omega) (by rw [List.append_assoc]; exact hR))
    have ew : wrap64 ((d : Int) + 1) = ((d + 1 : Nat) : Int) := by rw [w64 (by omega) (by omega)]; omega
    have e : (48 + ((d : Int) % 256)) % 256 = 48 + (d : Int) := by omega
    have hz : s.size + (digS d).size ≤ 9223372036854775807 := by rw [digS_size]; omega
    rw [impl_Bolts_states.l2, if_pos (by omega), e]
    simp only [Option.bind_some]
    rw [show strOfNums [48 + (d : Int)] = digS d from rfl, if_pos hz, if_pos (by omega), ew]
theorem states_l1 (l : List Int) (bs : List S35) (p : Nat) (hp : p ≤ 5) (x12 : List Int) (x13 x14 : Int) (x18 : List ByteArray) (hx : x18.length ≤ 100000) (hs : ∀ s ∈ x18, s.size ≤ 10) (R : List ByteArray) : ∀ (m j : Nat) (acc : List ByteArray), j + m = x18.length → acc.length + 5 * m ≤ 1000000 →
    Ev (fun k => impl_Bolts_states.l0 k (acc ++ stepT (p : Int) (x18.drop j)) x12 x13 (wrap64 (x14 + 1)) l bs) R → Ev (fun k => impl_Bolts_states.l1 k (p : Int) acc x12 x13 x14 x18 (x18.length : Int) (j : Int) l bs) R := by
  intro m
  induction m with
  | zero =>
    intro j acc hj ha hR
    rw [List.drop_of_length_le (by omega), stepT_nil, List.append_nil] at hR
    refine Ev.next ⟨0, fun k _ => ?_⟩ hR
    rw [impl_Bolts_states.l1, if_neg (by omega)]
  | succ m ih =>
    intro j acc hj ha hR
    have hlt : j < x18.length := by omega
    have er : rdOf ByteArray.empty x18 (j : Int) = x18[j] := by simp [rdOf, hlt]
    have ew : wrap64 ((j : Int) + 1) = ((j + 1 : Nat) : Int) := by rw [w64 (by omega) (by omega)]; omega
    rw [List.drop_eq_getElem_cons hlt, stepT_cons, ← List.append_assoc] at hR
    refine Ev.next (f := fun k => impl_Bolts_states.l2 k (p : Int) acc x18[j] x12 x13 x14 x18 (x18.length : Int) (j : Int) (p : Int) ((0 : Nat) : Int) l bs) ⟨0, fun k _ => ?_⟩ ?_
    · rw [impl_Bolts_states.l1, if_pos (by omega), if_pos (by omega), if_pos (by omega), er]; rfl
    · refine states_l2 l bs p p hp x12 x13 x14 _ _ x18 x18[j] (hs _ (List.getElem_mem hlt)) R p 0 acc (by omega) (by omega) ?_
      rw [ew]
      have := ih (j + 1) (acc ++ (List.range' 0 p).map fun d => x18[j] ++ digS d) (by omega) (by simp; omega) (by rw [← List.range_eq_range']; simpa using hR)
      exact this
theorem states_ev (l : List Int) (bs : List S35) (h : boOk l bs) : Ev (fun k => impl_Bolts_states.f k l bs) (allowedT l bs) := by
  have key : ∀ (m i : Nat), i + m = l.length → Ev (fun k => impl_Bolts_states.l0 k (textsR (l.take i).reverse) l (l.length : Int) (i : Int) l bs) (allowedT l bs) := by
    intro m
    induction m with
    | zero =>
      intro i hi
      refine Ev.last fun k => ?_
      obtain rfl : i = l.length := by omega
      rw [impl_Bolts_states.l0, if_neg (by omega), List.take_length]
      have hd : slices_DeleteFunc_string_string.f (textsR l.reverse) l bs = some (allowedT l bs) := by
        unfold slices_DeleteFunc_string_string.f
        have hpos : 0 < (textsR l.reverse).length := by
          rw [textsR_length h.places']
          have : ∀ r : List Int, (∀ p ∈ r, 2 ≤ p ∧ p ≤ 5) → 0 < prodN r := by
            intro r
            induction r with
            | nil => intro _; decide
            | cons p r ih =>
              intro hr
              have := hr p List.mem_cons_self
              exact Nat.mul_pos (ih fun q hq => hr q (List.mem_cons_of_mem _ hq)) (by omega)
          exact this _ h.places'
        have hall : (textsR l.reverse).all (fitsB bs) = true := List.all_eq_true.2 fun s hs => h.fits s (by rw [textsR_size h.places' s hs, List.length_reverse])
        rw [if_pos (by simp [hpos, hall])]; rfl
      rw [hd]; rfl
    | succ m ih =>
      intro i hi
      have hlt : i < l.length := by omega
      have hpi := h.places l[i] (List.getElem_mem hlt)
      obtain ⟨p, hp⟩ : ∃ p : Nat, l[i] = (p : Int) := ⟨l[i].toNat, by omega⟩
      have er : rd l (i : Int) = (p : Int) := by rw [← hp]; simp [rd, hlt]
      have hpl : ∀ q ∈ (l.take i).reverse, 2 ≤ q ∧ q ≤ 5 := fun q hq => h.places q (List.mem_of_mem_take (List.mem_reverse.1 hq))
      have h6 := h.len
      have hlen : (textsR (l.take i).reverse).length ≤ 15625 := by
        rw [textsR_length hpl]
        have h1 := prodN_le _ hpl
        have h2 : 5 ^ (l.take i).reverse.length ≤ 5 ^ 6 := Nat.pow_le_pow_right (by omega) (by rw [List.length_reverse, List.length_take]; omega)
        omega
      have ew : wrap64 ((i : Int) + 1) = ((i + 1 : Nat) : Int) := by rw [w64 (by omega) (by omega)]; omega
      refine Ev.next (f := fun k => impl_Bolts_states.l1 k (p : Int) [] l (l.length : Int) (i : Int) (textsR (l.take i).reverse) ((textsR (l.take i).reverse).length : Int) ((0 : Nat) : Int) l bs) ⟨0, fun k _ => ?_⟩ ?_
      · rw [impl_Bolts_states.l0, if_pos (by omega), if_pos (by omega), if_pos (by omega), er]; rfl
      · refine states_l1 l bs p (by omega) l _ _ _ (by omega) (fun s hs => by rw [textsR_size hpl s hs, List.length_reverse, List.length_take]; omega) _ (textsR (l.take i).reverse).length 0 [] (by omega) (by simp only [List.length_nil]; omega) ?_
        have := ih (i + 1) (by omega)
        rw [List.take_succ_eq_append_getElem hlt, List.reverse_append, hp] at this
        rw [ew]
        simpa [textsR] using this
  have := key l.length 0 (by omega)
  exact this

/-! ### after impl_NeedlessBlocks -/
theorem prodI_of (l : List Int) (hp : ∀ p ∈ l, 2 ≤ p ∧ p ≤ 5) (hl : l.length ≤ 6) : prodI l = (prodN l.reverse : Int) := by
  have key : ∀ (m i : Nat), i + m = l.length → (l.drop i).foldl (fun n x => wrap64 (n * x)) (prodN (l.take i).reverse : Int) = (prodN l.reverse : Int) := by
    intro m
    induction m with
    | zero =>
      intro i hi
      rw [List.drop_of_length_le (by omega), List.take_of_length_le (by omega)]
      rfl
    | succ m ih =>
      intro i hi
      have hlt : i < l.length := by omega
      have hpi := hp l[i] (List.getElem_mem hlt)
      obtain ⟨p, hpp⟩ : ∃ p : Nat, l[i] = (p : Int) := ⟨l[i].toNat, by omega⟩
      have hpl : ∀ q ∈ (l.take i).reverse, 2 ≤ q ∧ q ≤ 5 := fun q hq => hp q (List.mem_of_mem_take (List.mem_reverse.1 hq))
      have h1 := prodN_le _ hpl
      have h2 : 5 ^ (l.take i).reverse.length ≤ 5 ^ 6 := Nat.pow_le_pow_right (by omega) (by rw [List.length_reverse, List.length_take]; omega)
      have h3 : prodN (l.take i).reverse * p ≤ 15625 * 5 := Nat.mul_le_mul (by omega) (by omega)
      have := ih (i + 1) (by omega)
      rw [List.take_succ_eq_append_getElem hlt, List.reverse_append, hpp] at this
      simp only [List.reverse_cons, List.reverse_nil, List.nil_append, List.singleton_append, prodN, Int.toNat_natCast] at this
      rw [List.drop_eq_getElem_cons hlt, List.foldl_cons, hpp]
      have e : wrap64 ((prodN (l.take i).reverse : Int) * (p : Int)) = ((prodN (l.take i).reverse * p : Nat) : Int) := by
        rw [← Int.natCast_mul]
        exact w64 (by omega) (by omega)
      rw [e]
      exact this
  exact key l.length 0 (by omega)
theorem boOk_of {l : List Int} {bs : List S35} (h : areBoltsB l bs = true) : boOk l bs := by
  simp only [areBoltsB, Bool.and_eq_true, decide_eq_true_eq, Bool.not_eq_true'] at h
  obtain ⟨⟨⟨⟨h1, h2⟩, h3⟩, h4⟩, h5⟩ := h
  have hl := inB_hi h1
  have hp : ∀ p ∈ l, 2 ≤ p ∧ p ≤ 5 := fun p hp => by
    have := List.any_eq_false.1 h3 p hp
    simp only [Bool.not_eq_true, Bool.not_eq_false'] at this
    exact ⟨inB_lo this, inB_hi this⟩
  have hb : ∀ x ∈ bs, blockB l x.f0 x.f1 x.f2 x.f3 = true := fun x hx => by
    have := List.any_eq_false.1 h5 x hx
    simpa using this
  have hb2 : ∀ x ∈ bs, (0 ≤ x.f0 ∧ x.f0 < l.length ∧ 0 ≤ x.f2 ∧ x.f2 < l.length) ∧ (0 ≤ x.f1 ∧ x.f1 ≤ 4 ∧ 0 ≤ x.f3 ∧ x.f3 ≤ 4) := fun x hx => by
    have := hb x hx
    simp only [blockB, Bool.and_eq_true] at this
    obtain ⟨⟨⟨⟨q1, q2⟩, _⟩, q3⟩, q4⟩ := this
    have a1 := inB_lo q1
    have a2 := inB_hi q1
    have b1 := inB_lo q2
    have b2 := inB_hi q2
    have rdp : ∀ a : Int, 0 ≤ a → a < l.length → 2 ≤ rd l a ∧ rd l a ≤ 5 := fun a ha hb => by
      have hlt : a.toNat < l.length := by omega
      have e : rd l a = l[a.toNat] := by simp [rd, hlt]
      rw [e]
      exact hp _ (List.getElem_mem hlt)
    have r1 := rdp x.f0 a1 (by omega)
    have r2 := rdp x.f2 b1 (by omega)
    have c1 := inB_lo q3
    have c2 := inB_hi q3
    have d1 := inB_lo q4
    have d2 := inB_hi q4
    rw [w64 (by omega) (by omega)] at c2 d2
    exact ⟨⟨a1, by omega, b1, by omega⟩, c1, by omega, d1, by omega⟩
  refine ⟨hp, by omega, h2, fun s hs => List.all_eq_true.2 fun x hx => ?_, fun x hx => (hb2 x hx).2, prodI_of l hp (by omega)⟩
  have := (hb2 x hx).1
  simp only [Bool.and_eq_true, decide_eq_true_eq]
  omega
theorem boOk.without {l : List Int} {bs : List S35} (h : boOk l bs) (a : Nat) : boOk l (bs.eraseIdx a) :=
  ⟨h.places, h.len, Nat.le_trans (List.length_eraseIdx_le _ _) h.blocks, fun s hs => List.all_eq_true.2 fun x hx => List.all_eq_true.1 (h.fits s hs) x (List.mem_of_mem_eraseIdx hx), fun x hx => h.vals x (List.mem_of_mem_eraseIdx hx), h.count⟩
/-- The blocks that take no state away. -/
def idleB (l : List Int) (bs : List S35) (a : Nat) : Bool := decide ((allowedT l (bs.eraseIdx a)).length = (allowedT l bs).length)
def idlesT (l : List Int) (bs : List S35) (i m : Nat) : List Int := ((List.range' i m).filter (idleB l bs)).map fun a : Nat => (a : Int)
theorem idlesT_succ (l : List Int) (bs : List S35) (i m : Nat) (acc : List Int) : acc ++ idlesT l bs i (m + 1) = (if idleB l bs i = true then acc ++ [(i : Int)] else acc) ++ idlesT l bs (i + 1) m := by
  unfold idlesT
  rw [List.range'_succ, List.filter_cons]
  cases idleB l bs i <;> simp
theorem implWithout_eq (l : List Int) (bs : List S35) (a : Nat) (hl : l.length ≤ 6) (hb : bs.length ≤ 40) (ha : a < bs.length) : impl_Bolts_without.f l bs (a : Int) = some (l, bs.eraseIdx a) := by
  have e : wrap64 ((a : Int) + 1) = (a : Int) + 1 := w64 (by omega) (by omega)
  have hc : slices_Clone_int_int.f l = some l := if_pos (by omega)
  have hc2 : impl_Block_48.f bs = some bs := if_pos (by omega)
  have hd : impl_Block_50.f bs (a : Int) ((a : Int) + 1) = some (bs.eraseIdx (a : Int).toNat) := if_pos ⟨by omega, rfl, by omega⟩
  simp [impl_Bolts_without.f, impl_Bolts_own.f, hc, hc2, hd, e]
def needlessR (l : List Int) (bs : List S35) : List Int × Bool := if areBoltsB l bs = true then (idlesT l bs 0 bs.length, true) else ([], false)
theorem implNeedless_ev (l : List Int) (bs : List S35) : Ev (fun k => impl_NeedlessBlocks.f k l bs) (needlessR l bs) := by
  unfold needlessR
  cases hb : areBoltsB l bs
  · exact ⟨0, fun k _ => by simp [impl_NeedlessBlocks.f, impl_AreBolts.f, hb]⟩
  · have h := boOk_of hb
    have h40 := h.blocks
    have h6 := h.len
    obtain ⟨K0, h0⟩ := states_ev l bs h
    have key : ∀ (m i : Nat) (acc : List Int), i + m = bs.length → acc.length ≤ i → Ev (fun k => impl_NeedlessBlocks.l0 k ((allowedT l bs).length : Int) acc (bs.length : Int) (i : Int) l bs) (acc ++ idlesT l bs i m, true) := by
      intro m
      induction m with
      | zero =>
        intro i acc hi _
        refine Ev.last fun k => ?_
        rw [impl_NeedlessBlocks.l0, if_neg (by omega)]
        simp [idlesT]
      | succ m ih =>
        intro i acc hi ha
        obtain ⟨K, hK⟩ := states_ev l (bs.eraseIdx i) (h.without i)
        have ew : wrap64 ((i : Int) + 1) = ((i + 1 : Nat) : Int) := by rw [w64 (by omega) (by omega)]; omega
        rw [idlesT_succ]
        refine Ev.next ⟨K, fun k hk => ?_⟩ (ih (i + 1) (if idleB l bs i = true then acc ++ [(i : Int)] else acc) (by omega) (by split <;> (try rw [List.length_append, List.length_singleton]) <;> omega))
        have h1 := hK k hk
        simp only at h1
        rw [impl_NeedlessBlocks.l0, if_pos (by omega), implWithout_eq l bs i h6 h40 (by omega)]
        simp only [Option.bind_some, h1, ew]
        by_cases hq : (allowedT l (bs.eraseIdx i)).length = (allowedT l bs).length
        · have hi' : idleB l bs i = true := decide_eq_true hq
          rw [if_pos (by omega), if_pos (by omega), hi', if_pos rfl]
        · have hi' : idleB l bs i = false := decide_eq_false hq
          rw [if_neg (by omega), hi', if_neg (by simp)]
    obtain ⟨K1, h1⟩ := key bs.length 0 [] (by omega) (by simp)
    refine ⟨K0 + K1, fun k hk => ?_⟩
    have h0 := h0 k (by omega)
    have h1 := h1 k (by omega)
    simp only at h0 h1
    simp only [impl_NeedlessBlocks.f, impl_AreBolts.f, hb, Option.bind_some, if_true, h0]
    simpa using h1

/-! ### after spec_NeedlessBlocks -/
theorem specNeedless_ev (l : List Int) (bs : List S35) (hl : l.length ≤ 1048576) (hbl : bs.length ≤ 1048576) : Ev (fun k => spec_NeedlessBlocks.f k l bs) (needlessR l bs) := by
  obtain ⟨KG, hG⟩ := boGood_ev l bs (by omega) (by omega)
  unfold needlessR
  cases hb : areBoltsB l bs
  · exact ⟨KG, fun k hk => by
      have hG := hG k hk
      simp only at hG
      simp [spec_NeedlessBlocks.f, hG, hb]⟩
  · have h := boOk_of hb
    have h40 := h.blocks
    have h6 := h.len
    obtain ⟨K0, h0⟩ := boAll_ev l bs h
    have key : ∀ (m i : Nat) (acc : List Int), i + m = bs.length → acc.length ≤ i → Ev (fun k => spec_NeedlessBlocks.l0 k acc ((allowedT l bs).length : Int) (bs.length : Int) (i : Int) l bs) (acc ++ idlesT l bs i m, true) := by
      intro m
      induction m with
      | zero =>
        intro i acc hi _
        refine Ev.last fun k => ?_
        rw [spec_NeedlessBlocks.l0, if_neg (by omega)]
        simp [idlesT]
      | succ m ih =>
        intro i acc hi ha
        obtain ⟨K, hK⟩ := boAll_ev l (bs.eraseIdx i) (h.without i)
        obtain ⟨K2, hK2⟩ := boWithout_ev l bs i (by omega) (by omega)
        have ew : wrap64 ((i : Int) + 1) = ((i + 1 : Nat) : Int) := by rw [w64 (by omega) (by omega)]; omega
        rw [idlesT_succ]
        refine Ev.next ⟨K + K2, fun k hk => ?_⟩ (ih (i + 1) (if idleB l bs i = true then acc ++ [(i : Int)] else acc) (by omega) (by split <;> (try rw [List.length_append, List.length_singleton]) <;> omega))
        have h1 := hK k (by omega)
        have h2 := hK2 k (by omega)
        simp only at h1 h2
        rw [spec_NeedlessBlocks.l0, if_pos (by omega), h2]
        simp only [Option.bind_some, h1, ew]
        by_cases hq : (allowedT l (bs.eraseIdx i)).length = (allowedT l bs).length
        · have hi' : idleB l bs i = true := decide_eq_true hq
          rw [if_pos (by omega), if_pos (by omega), hi', if_pos rfl]
        · have hi' : idleB l bs i = false := decide_eq_false hq
          rw [if_neg (by omega), hi', if_neg (by simp)]
    obtain ⟨K1, h1⟩ := key bs.length 0 [] (by omega) (by simp)
    refine ⟨K0 + K1 + KG, fun k hk => ?_⟩
    have h0 := h0 k (by omega)
    have h1 := h1 k (by omega)
    have hG := hG k (by omega)
    simp only at h0 h1 hG
    simp only [spec_NeedlessBlocks.f, hG, hb, Option.bind_some, if_true, h0]
    simpa using h1

end Go.Proofs.Ytpjdlobkeafacaa.PNeedlessBlocks
