/- A loop over the places of a text that is ASCII where the loop comes: the iterator's cell. No condition beyond each law's own. -/
import Derived.Test.YtcogjabdddikjaaDoorQState
import Derived.Lib.OthersKept
import Derived.Laws.RangeString
namespace Go.Proofs.YtcogjabdddikjaaDoor
open Go Go.RowKit Go.Proofs.YtcogjabdddikjaaDoorW.PrintWords Go.Proofs.YtcogjabdddikjaaDoorW.PrintLast Go.Proofs.YtcogjabdddikjaaDoorW.PrintMore
set_option linter.unusedVariables false
set_option linter.unusedSimpArgs false
theorem rng_start {w W : World} (h : Below w.heap.size w W) (s : ByteArray) : ∃ K, K = W.heap.size ∧ w.heap.size ≤ K ∧ (W.iter s 0).heap[K]? = some (.stringIter s (0 : Int).toNat) ∧ Below w.heap.size w (W.iter s 0) :=
  ⟨_, rfl, below_size h, World.iter_heap W s 0, below_alloc h _⟩
theorem rng_next {P : Program} {w : World} {K : Nat} {s : ByteArray} {i : Int} (hk : w.heap[K]? = some (.stringIter s i.toNat)) (h0 : 0 ≤ i) (h1 : i < (s.size : Int)) (h2 : bt s i < 128) :
    ∃ rn, ∀ ty, (Instr.next (.pointer (some ⟨K, 0, none⟩)) true ty).run P w = .ok (.tuple #[.bool true, .int .i64 i, .int .i32 rn]) (w.iterAt K s (i + 1).toNat) := by
  have hq : i.toNat < s.size := by omega
  refine ⟨(Utf8.decode s i.toNat).1, fun ty => ?_⟩
  have hb := bt_at s i hq
  have hn := Lib.run_next_any_at (P := P) w K s i.toNat ty hk hq
  have hd : (Utf8.decode s i.toNat).2 = 1 := by
    rw [decode_ascii s i.toNat hq (by rw [← hb] at h2; omega)]
  rw [hd] at hn
  rw [hn, show ((i.toNat : Nat) : Int) = i by omega, show i.toNat + 1 = (i + 1).toNat by omega]
theorem rng_end {P : Program} {w : World} {K : Nat} {s : ByteArray} {i : Int} (hk : w.heap[K]? = some (.stringIter s i.toNat)) (h0 : 0 ≤ i) (h1 : ¬ i < (s.size : Int)) :
    ∀ ty, (Instr.next (.pointer (some ⟨K, 0, none⟩)) true ty).run P w = .ok (.tuple #[.bool false]) w :=
  fun ty => Lib.run_next_end_at (P := P) w K s i.toNat ty hk (by omega)
theorem rng_at {w : World} {K p p' : Nat} {s : ByteArray} (hk : w.heap[K]? = some (.stringIter s p)) : (w.iterAt K s p').heap[K]? = some (.stringIter s p') := Lib.iterAt_heap w K s p p' hk
theorem rng_other {w : World} {K g p : Nat} {s : ByteArray} {o : Obj} (h : w.heap[g]? = some o) (hne : g ≠ K) : (w.iterAt K s p).heap[g]? = some o := (Lib.iterAt_other w K g s p hne).trans h
theorem rng_below {w W : World} {K p : Nat} {s : ByteArray} (h : Below w.heap.size w W) (hK : w.heap.size ≤ K) : Below w.heap.size w (W.iterAt K s p) := Lib.below_iterAt h hK (k := K) s p
theorem rng_ge {w W : World} {g K : Nat} {row : Option Nat} (hK : K = W.heap.size) (h : KeepBut w W g row) : w.heap.size ≤ K := by rw [hK]; exact keep_size h
theorem rng_ne_ {W : World} {g K : Nat} (hK : K = W.heap.size) (h : g < W.heap.size) : g ≠ K := by omega
theorem rng_K {w W : World} {g : Nat} (h : KeepBut w W g none) (s : ByteArray) : KeepBut w (W.iter s 0) g none := keep_alloc h _
theorem rng_Kat {w W : World} {g K p : Nat} {s : ByteArray} {row : Option Nat} (h : KeepBut w W g row) (hK : w.heap.size ≤ K) : KeepBut w (W.iterAt K s p) g row :=
  ⟨Nat.le_trans h.1 (by simp [World.iterAt]), fun i hi hg hr => (Lib.iterAt_other W K i s p (by omega)).trans (h.2 i hi hg hr)⟩
theorem rng_kept {w w1 : World} {g K : Nat} {o : Obj} (hk : w.heap[K]? = some o) (h : KeepBut w w1 g none) (hne : g ≠ K) : w1.heap[K]? = some o := (h.2 K (blk_lt hk) (fun e => hne e.symm) (by simp)).trans hk
end Go.Proofs.YtcogjabdddikjaaDoor
