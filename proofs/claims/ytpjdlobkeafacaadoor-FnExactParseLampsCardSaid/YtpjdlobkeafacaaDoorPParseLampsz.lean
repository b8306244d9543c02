/- What the printed functions answer, function by function: plain statements, without memory. (wip/after) -/
import Derived.Test.YtpjdlobkeafacaaDoorPParseLampsx
import Derived.Test.YtpjdlobkeafacaaDoorEv
import Derived.Test.YtpjdlobkeafacaaDoorState
namespace Go.Proofs.YtpjdlobkeafacaaDoor.PParseLamps
open Go.RowKit Go.Proofs.YtpjdlobkeafacaaDoorW.PrintWords Go.Proofs.YtpjdlobkeafacaaDoorW.PrintLast Go.Proofs.YtpjdlobkeafacaaDoorW.PrintMore
set_option linter.unusedVariables false
set_option linter.unusedSimpArgs false
/-! ### after laws_eqStringS -/
theorem laws_eqStringS.ev (l : List ByteArray) (hl : l.length ≤ 9223372036854775807) : Ev (fun k => laws_eqStringS.f k l l) true := by
  unfold laws_eqStringS.f
  refine Ev.congr (f := fun k => laws_eqStringS.l0 k l l 0) (fun k => if_pos rfl) ?_
  refine eq_ev laws_eqStringS.l0 ?_ ?_ l hl
  · intro l i h hl
    refine ⟨0, fun k _ => ?_⟩
    have ew : wrap64 ((i : Int) + 1) = ((i + 1 : Nat) : Int) := by rw [w64 (by omega) (by omega)]; omega
    rw [laws_eqStringS.l0, if_pos (by omega), if_pos (by omega), if_pos (by omega)]
    simp [ew]
  · intro k l
    rw [laws_eqStringS.l0, if_neg (by omega)]

/-! ### after laws_markText -/
theorem strOfNums_one (z : Int) : (strOfNums [z]).size = 1 := by simp [strOfNums]; rfl
theorem markText_l0 : ∀ (d n : Nat) (x : ByteArray), n < 10 ^ d → n ≤ 4611686018427387904 → x.size + d ≤ 1000 → ∃ r, laws_markText.l0 (d + 1) n x = some r := by
  intro d
  induction d with
  | zero =>
    intro n x hn hb hx
    have : n = 0 := by simpa using hn
    subst this
    rw [laws_markText.l0, if_neg (by omega), if_pos (by omega)]
    exact ⟨_, rfl⟩
  | succ d ih =>
    intro n x hn hb hx
    by_cases h0 : n = 0
    · subst h0
      rw [laws_markText.l0, if_neg (by omega), if_pos (by omega)]
      exact ⟨_, rfl⟩
    · have e : wrap64 (Int.tdiv (n : Int) 10) = ((n / 10 : Nat) : Int) := by
        have : Int.tdiv (n : Int) 10 = ((n / 10 : Nat) : Int) := by
          rw [Int.tdiv_eq_ediv_of_nonneg (by omega)]; rfl
        rw [this, w64 (by omega) (by omega)]
      rw [laws_markText.l0, if_pos (by omega)]
      simp only [Option.bind_some, strOfNums_one]
      rw [if_pos (by omega), e]
      refine ih (n / 10) _ ?_ (by omega) ?_
      · rw [Nat.pow_succ] at hn; omega
      · rw [ByteArray.size_append, strOfNums_one]; omega
/-- The text of a mark. -/
def markT (a : Int) : ByteArray := (laws_markText.f 40 a).getD ⟨#[]⟩
theorem markT_ev (a : Int) (h0 : 0 ≤ a) (hB : a ≤ 4611686018427387904) : Ev (fun k => laws_markText.f k a) (markT a) := by
  have h : ∃ r, laws_markText.f 40 a = some r := by
    unfold laws_markText.f
    by_cases h : a ≤ 0
    · rw [if_pos h]; exact ⟨_, rfl⟩
    · rw [if_neg h]
      obtain ⟨n, rfl⟩ : ∃ n : Nat, a = n := ⟨a.toNat, by omega⟩
      exact markText_l0 39 n _ (Nat.lt_of_le_of_lt (by omega : n ≤ 4611686018427387904) (by decide)) (by omega) (by decide)
  obtain ⟨r, hr⟩ := h
  unfold markT
  rw [hr]
  exact Ev.of (laws_markText.mono a) hr

/-! ### after laws_markStringS -/
theorem laws_markStringS.ev (l : List ByteArray) (a : Int) (h0 : 0 ≤ a) (hB : a + 1 * l.length ≤ 4611686018427387904) : Ev (fun k => laws_markStringS.f k l a) (a + 1 * l.length, marks markT 1 l.length a) := by
  unfold laws_markStringS.f
  refine mark_ev laws_markStringS.l0 markT 1 4611686018427387904 ?_ ?_ l a h0 hB (by omega)
  · intro l a i h h0 hB hl
    obtain ⟨K, hK⟩ := markT_ev a h0 (by omega)
    refine ⟨K, fun k hk => ?_⟩
    have ew : wrap64 ((i : Int) + 1) = ((i + 1 : Nat) : Int) := by rw [w64 (by omega) (by omega)]; omega
    have e1 : wrap64 (a + 1) = a + 1 := w64 (by omega) (by omega)
    have := hK k hk
    simp only at this
    rw [laws_markStringS.l0, if_pos (by omega), this, Option.bind_some, if_pos (by omega), ew, e1, Int.toNat_natCast]
    rfl
  · intro k l a
    rw [laws_markStringS.l0, if_neg (by omega)]

/-! ### after laws_heldStringS -/
theorem laws_heldStringS.ev (n : Nat) (a : Int) (h0 : 0 ≤ a) (hB : a + 1 * n ≤ 4611686018427387904) : Ev (fun k => laws_heldStringS.f k (marks markT 1 n a) a) (a + 1 * n) := by
  unfold laws_heldStringS.f
  refine held_ev laws_heldStringS.l0 markT 1 4611686018427387904 ?_ ?_ n a h0 hB (by omega)
  · intro l a i h h0 hB hl hv
    obtain ⟨K, hK⟩ := markT_ev a h0 (by omega)
    refine ⟨K, fun k hk => ?_⟩
    have ew : wrap64 ((i : Int) + 1) = ((i + 1 : Nat) : Int) := by rw [w64 (by omega) (by omega)]; omega
    have e1 : wrap64 (a + 1) = a + 1 := w64 (by omega) (by omega)
    have := hK k hk
    simp only at this
    have er : rdOf ByteArray.empty l (i : Int) = markT a := by rw [← hv]; simp [rdOf, h]
    rw [laws_heldStringS.l0, if_pos (by omega), if_pos (by omega), this, Option.bind_some, er, if_pos rfl, ew, e1]
    rfl
  · intro k l a
    rw [laws_heldStringS.l0, if_neg (by omega)]

/-! ### after laws_toStringS -/
theorem laws_toStringS.ev (l : List ByteArray) (hl : l.length ≤ 1048576) : Ev (fun k => laws_toStringS.f k l) l := by
  have h1 : 0 ≤ (l.length : Int) := by omega
  have h2 : (l.length : Int).toNat ≤ 17592186044416 := by omega
  unfold laws_toStringS.f
  simp only [if_pos h1, if_pos h2]
  have key : Ev (fun k => laws_toStringS.l0 k l (List.replicate (l.length : Int).toNat (⟨#[]⟩ : ByteArray)) 0) (l.map fun x => x) := to_ev laws_toStringS.l0 (fun x : ByteArray => x) (fun l acc i h hc hl => by
    refine ⟨0, fun k _ => ?_⟩
    have e : rdOf ByteArray.empty l (i : Int) = l[i] := by simp [rdOf, h]
    have ew : wrap64 ((i : Int) + 1) = ((i + 1 : Nat) : Int) := by rw [w64 (by omega) (by omega)]; omega
    rw [laws_toStringS.l0, if_pos (by omega), if_pos (by omega), if_pos (by omega), e, ew]
    rfl) (fun k l acc => by rw [laws_toStringS.l0, if_neg (by omega)]) l _ (by simp) (by omega)
  have e : (l.map fun x : ByteArray => x) = l := by simp
  rw [e] at key
  exact key

/-! ### after laws_eqLamps -/
theorem eqLamps_ev (l : List ByteArray) (hl : l.length ≤ 9223372036854775807) : Ev (fun k => laws_eqLamps.f k l l) true := by
  obtain ⟨K, hK⟩ := laws_eqStringS.ev l hl
  exact ⟨K, fun k hk => by simp [laws_eqLamps.f, hK k hk]⟩

/-! ### after laws_markLamps -/
theorem markLamps_ev (l : List ByteArray) (hl : l.length ≤ 1048577) : Ev (fun k => laws_markLamps.f k l 1) (1 + 1 * l.length, marks markT 1 l.length 1) := by
  obtain ⟨K, hK⟩ := laws_markStringS.ev l 1 (by omega) (by omega)
  exact ⟨K, fun k hk => by simp [laws_markLamps.f, hK k hk]⟩

/-! ### after laws_heldLamps -/
theorem heldLamps_ev (n : Nat) (hl : n ≤ 1048577) : Ev (fun k => laws_heldLamps.f k (marks markT 1 n 1) 1) (1 + 1 * n) := by
  obtain ⟨K, hK⟩ := laws_heldStringS.ev n 1 (by omega) (by omega)
  exact ⟨K, fun k hk => by
    simp only [laws_heldLamps.f, hK k hk, Option.bind_some]
    rw [if_neg (by omega)]⟩

/-! ### after spec_l1Split -/
/-- A text in pieces, cut at each sign b; the first piece goes on from another text. -/
def cutL (b : UInt8) : List UInt8 → List UInt8 → List (List UInt8)
  | cur, [] => [cur]
  | cur, x :: r => if x = b then cur :: cutL b [] r else cutL b (cur ++ [x]) r
def mkS (l : List UInt8) : ByteArray := ⟨l.toArray⟩
theorem mkS_data (x : ByteArray) : mkS x.data.toList = x := by obtain ⟨⟨l⟩⟩ := x; rfl
def cutS (b : UInt8) (s : ByteArray) : List ByteArray := (cutL b [] s.data.toList).map mkS
theorem cutL_cur (b : UInt8) : ∀ (l : List UInt8), ∃ f r, ∀ cur, cutL b cur l = (cur ++ f) :: r
  | [] => ⟨[], [], fun cur => by simp [cutL]⟩
  | x :: l => by
    obtain ⟨f, r, h⟩ := cutL_cur b l
    by_cases c : x = b
    · exact ⟨[], cutL b [] l, fun cur => by rw [cutL, if_pos c, List.append_nil]⟩
    · exact ⟨x :: f, r, fun cur => by rw [cutL, if_neg c, h (cur ++ [x])]; simp⟩
theorem cutL_length (b : UInt8) : ∀ (l cur : List UInt8), ((cutL b cur l).map List.length).sum + (cutL b cur l).length = cur.length + l.length + 1
  | [], cur => by simp [cutL]
  | x :: l, cur => by
    rw [cutL]
    split
    · have := cutL_length b l []
      simp only [List.map_cons, List.sum_cons, List.length_cons, List.length_nil] at this ⊢
      omega
    · have := cutL_length b l (cur ++ [x])
      rw [this]; simp; omega
theorem sum_le_mul (m : Nat) : ∀ (L : List Nat), (∀ x ∈ L, x ≤ m) → L.sum ≤ m * L.length
  | [], _ => by simp
  | x :: L, h => by
    have h1 := sum_le_mul m L (fun y hy => h y (List.mem_cons_of_mem _ hy))
    have h2 := h x List.mem_cons_self
    simp only [List.sum_cons, List.length_cons, Nat.mul_add, Nat.mul_one]
    omega
theorem l1Split_l0 (s : ByteArray) (b : UInt8) (hs : s.size ≤ 1048576) : ∀ (n i fr : Nat) (acc : List ByteArray), i + n = s.size → fr ≤ i → acc.length ≤ i →
    Ev (fun k => spec_l1Split.l0 k s (b.toNat : Int) acc (fr : Int) (i : Int)) (acc ++ (cutL b (s.extract fr i).data.toList (s.data.toList.drop i)).map mkS) := by
  have hz := Lib.size_eq s
  intro n
  induction n with
  | zero =>
    intro i fr acc hi hf ha
    refine Ev.last fun k => ?_
    obtain rfl : i = s.size := by omega
    rw [spec_l1Split.l0, if_neg (by omega), if_pos (by omega), if_pos (by omega), if_pos (by omega), Int.toNat_natCast, List.drop_of_length_le (by omega)]
    rfl
  | succ n ih =>
    intro i fr acc hi hf ha
    have hl : i < s.data.toList.length := by omega
    have e1 := bt_nat s i hl
    have ew : wrap64 ((i : Int) + 1) = ((i + 1 : Nat) : Int) := by rw [w64 (by omega) (by omega)]; omega
    have qd : ((s.data.toList[i].toNat : Int) = (b.toNat : Int)) = (s.data.toList[i] = b) := propext ⟨fun h => UInt8.toNat_inj.mp (by omega), fun h => by rw [h]⟩
    have hd : s.data.toList.drop i = s.data.toList[i] :: s.data.toList.drop (i + 1) := List.drop_eq_getElem_cons hl
    rw [hd, cutL]
    by_cases c : s.data.toList[i] = b
    · rw [if_pos c]
      have e0 : (s.extract (i + 1) (i + 1)).data.toList = [] := by rw [Lib.extract_data]; simp
      have := ih (i + 1) (i + 1) (acc ++ [s.extract fr i]) (by omega) (Nat.le_refl _) (by simp; omega)
      rw [e0] at this
      have e3 : acc ++ List.map mkS ((s.extract fr i).data.toList :: cutL b [] (s.data.toList.drop (i + 1))) = (acc ++ [s.extract fr i]) ++ List.map mkS (cutL b [] (s.data.toList.drop (i + 1))) := by rw [List.map_cons, mkS_data]; simp
      rw [e3]
      refine Ev.next ⟨0, fun k _ => ?_⟩ this
      rw [spec_l1Split.l0, if_pos (by omega), if_pos (by omega), e1, if_pos (qd.mpr c), if_pos (by omega), if_pos (by omega), if_pos (by omega), if_pos (by omega), Int.toNat_natCast, Int.toNat_natCast, ew]
    · rw [if_neg c]
      have e0 : (s.extract fr (i + 1)).data.toList = (s.extract fr i).data.toList ++ [s.data.toList[i]] := by
        rw [Lib.extract_data, Lib.extract_data, show i + 1 - fr = (i - fr) + 1 by omega]
        have hl2 : i - fr < (s.data.toList.drop fr).length := by rw [List.length_drop]; omega
        rw [List.take_succ_eq_append_getElem hl2]
        simp [show fr + (i - fr) = i by omega]
      have := ih (i + 1) fr acc (by omega) (by omega) (by omega)
      rw [e0] at this
      refine Ev.next ⟨0, fun k _ => ?_⟩ this
      rw [spec_l1Split.l0, if_pos (by omega), if_pos (by omega), e1, if_neg (fun h => c (qd.mp h)), ew]
theorem l1Split_ev (s : ByteArray) (b : UInt8) (hs : s.size ≤ 1048576) : Ev (fun k => spec_l1Split.f k s (b.toNat : Int)) (cutS b s) := by
  have := l1Split_l0 s b hs s.size 0 0 [] (by omega) (Nat.le_refl _) (by simp)
  have e0 : (s.extract 0 0).data.toList = [] := by rw [Lib.extract_data]; simp
  rw [e0, List.nil_append] at this
  exact this
theorem indexByte_mem (b : UInt8) : ∀ (l : List UInt8), Lib.indexByte l b = -1 → l.count b = 0
  | [], _ => rfl
  | x :: l, h => by
    rw [Lib.indexByte] at h
    by_cases c : (x == b) = true
    · rw [if_pos c] at h; cases h
    · rw [if_neg c] at h
      have hge := Lib.indexByte_ge l b
      have h2 : Lib.indexByte l b = -1 := by
        by_cases e : Lib.indexByte l b = -1
        · exact e
        · rw [if_neg (by simpa using e)] at h; omega
      rw [List.count_cons, indexByte_mem b l h2, if_neg c]
theorem splitK_cut (b : UInt8) : ∀ (l : List UInt8), Lib.splitK [b] 0 (l.count b) l = cutL b [] l
  | [] => rfl
  | x :: l => by
    have ih := splitK_cut b l
    by_cases c : x = b
    · subst c
      have e : Lib.index (x :: l) [x] = 0 := by rw [Lib.index_one, Lib.indexByte, if_pos (by simp)]
      rw [List.count_cons_self, Lib.splitK, e, cutL, if_pos rfl, ← ih]
      rfl
    · obtain ⟨f, r, hfr⟩ := cutL_cur b l
      have h0 := hfr []
      rw [List.nil_append] at h0
      rw [h0] at ih
      rw [cutL, if_neg c, hfr ([] ++ [x]), List.count_cons_of_ne (by simpa using c)]
      cases hk : l.count b with
      | zero =>
        rw [hk] at ih
        simp only [Lib.splitK, List.cons.injEq] at ih ⊢
        obtain ⟨rfl, rfl⟩ := ih
        simp
      | succ k =>
        rw [hk] at ih
        have hge := Lib.indexByte_ge l b
        have hne : ¬ Lib.indexByte l b = -1 := fun e => by rw [indexByte_mem b l e] at hk; cases hk
        obtain ⟨j, hj⟩ : ∃ j : Nat, Lib.indexByte l b = j := ⟨(Lib.indexByte l b).toNat, by omega⟩
        have e1 : Lib.index l [b] = (j : Int) := by rw [Lib.index_one, hj]
        have e2 : Lib.index (x :: l) [b] = ((j + 1 : Nat) : Int) := by
          rw [Lib.index_one, Lib.indexByte, if_neg (by simpa using c), hj, if_neg (by simp)]; omega
        have n1 : ¬ ((j : Int) == -1) = true := by simp
        have n2 : ¬ (((j + 1 : Nat) : Int) == -1) = true := by rw [beq_iff_eq]; omega
        rw [Lib.splitK, e1, if_neg n1] at ih
        rw [Lib.splitK, e2, if_neg n2]
        simp only [Int.toNat_natCast, Nat.add_zero, List.length_singleton, List.cons.injEq] at ih ⊢
        obtain ⟨rfl, rfl⟩ := ih
        simp

/-! ### after strings_Split -/
theorem split_eq (s : ByteArray) (b : UInt8) (hs : s.size ≤ 1048576) : strings_Split.f s ⟨#[b]⟩ = some (cutS b s) := by
  unfold strings_Split.f
  rw [if_pos ⟨by omega, rfl⟩]
  have h := Lib.splitB_data (⟨#[b]⟩ : ByteArray) 0 (Lib.countB s ⟨#[b]⟩) s
  have hc : Lib.countB s ⟨#[b]⟩ = s.data.toList.count b := Lib.count_one b s.data.toList
  rw [hc] at h ⊢
  have h2 : (Lib.splitB ⟨#[b]⟩ 0 (s.data.toList.count b) s).map (·.data.toList) = cutL b [] s.data.toList := h.trans (splitK_cut b _)
  unfold cutS
  rw [← h2, List.map_map]
  congr 1
  exact (List.map_id _).symm

/-! ### after impl_ParseLamps -/
def parseR (s : ByteArray) : List ByteArray × Bool := if areLampsB (cutS 47 s) = true then (cutS 47 s, true) else ([], false)
theorem parseR_len (s : ByteArray) : (parseR s).1.length ≤ 10 := by
  unfold parseR
  split
  · rename_i h; exact (lamps_facts h).2.1
  · simp
theorem parse_small {s : ByteArray} (h : areLampsB (cutS 47 s) = true) : s.size ≤ 109 := by
  obtain ⟨_, h10, hall⟩ := lamps_facts h
  have hz := Lib.size_eq s
  have h1 := cutL_length 47 s.data.toList []
  have hl : (cutS 47 s).length = (cutL 47 [] s.data.toList).length := by simp [cutS]
  have h2 := sum_le_mul 10 ((cutL 47 [] s.data.toList).map List.length) (fun x hx => by
    obtain ⟨l, hl', rfl⟩ := List.mem_map.1 hx
    have := (hall (mkS l) (List.mem_map.2 ⟨l, hl', rfl⟩)).1
    have e : (mkS l).size = l.length := by show l.toArray.size = l.length; simp
    omega)
  rw [List.length_map] at h2
  simp only [List.length_nil] at h1
  omega
theorem implParse_eq (s : ByteArray) (hs : s.size ≤ 1048576) : impl_ParseLamps.f s = some (parseR s) := by
  unfold impl_ParseLamps.f parseR
  rw [split_eq s 47 hs, Option.bind_some]
  simp only [impl_AreLamps.f, Option.bind_some]
  split <;> rfl

/-! ### after spec_ParseLamps -/
theorem specParse_ev (s : ByteArray) : Ev (fun k => spec_ParseLamps.f k s) (parseR s) := by
  by_cases c : (s.size : Int) > 110
  · refine ⟨0, fun k _ => ?_⟩
    have hn : ¬ areLampsB (cutS 47 s) = true := fun h => by have := parse_small h; omega
    simp only [spec_ParseLamps.f]
    rw [if_pos c, parseR, if_neg hn]
  · obtain ⟨K, hK⟩ := l1Split_ev s 47 (by omega)
    refine ⟨K, fun k hk => ?_⟩
    have h := hK k hk
    simp only at h
    have e47 : ((47 : UInt8).toNat : Int) = 47 := rfl
    rw [e47] at h
    simp only [spec_ParseLamps.f, h, Option.bind_some, spec_laGood.f]
    rw [if_neg c, parseR]
    split <;> rfl

end Go.Proofs.YtpjdlobkeafacaaDoor.PParseLamps
