/- A loop over the places of a text that is ASCII where the loop comes: the iterator's cell. No condition beyond each law's own. -/
import Derived.Test.YtpdkjehplfgjcabGreatDoorQState
import Derived.Lib.OthersKept
import Derived.Laws.RangeString
namespace Go.Proofs.YtpdkjehplfgjcabGreatDoor
open Go Go.RowKit Go.Proofs.YtpdkjehplfgjcabGreatDoorW.PrintWords Go.Proofs.YtpdkjehplfgjcabGreatDoorW.PrintLast Go.Proofs.YtpdkjehplfgjcabGreatDoorW.PrintMore
set_option linter.unusedVariables false
set_option linter.unusedSimpArgs false
theorem rng_start {w W : World} (h : Below w.heap.size w W) (s : ByteArray) : ∃ K, K = W.heap.size ∧ w.heap.size ≤ K ∧ (W.iter s 0).heap[K]? = some (.stringIter s (0 : Int).toNat) ∧ Below w.heap.size w (W.iter s 0) :=
  ⟨_, rfl, below_size h, World.iter_heap W s 0, below_alloc h _⟩
theorem rng_R {α : Type} {d : Kd α} {e base : Nat} {ok : Nat → Prop} {w : World} {v : Value} {xs : List α} (h : d.R e w base ok v xs) (s : ByteArray) : d.R e (w.iter s 0) base ok v xs := Kd.R_below h (below_alloc (Below.refl _ _) _)
theorem rng_B {w : World} {g : Nat} {o : Obj} (h : w.heap[g]? = some o) (s : ByteArray) : (w.iter s 0).heap[g]? = some o := blk_below h (below_alloc (Below.refl _ _) _)
theorem rng_lt {w : World} {g K : Nat} {o : Obj} (h : w.heap[g]? = some o) (hK : K = w.heap.size) : g ≠ K := by
  have := blk_lt h
  omega
theorem rng_next {P : Program} {w : World} {K : Nat} {s : ByteArray} {i : Int} (hk : w.heap[K]? = some (.stringIter s i.toNat)) (h0 : 0 ≤ i) (h1 : i < (s.size : Int)) (h2 : bt s i < 128) :
    ∃ rn, ∀ ty, (Instr.next (.pointer (some ⟨K, 0, none⟩)) true ty).run P w = .ok (.tuple #[.bool true, .int .i64 i, .int .i32 rn]) (w.iterAt K s (i + 1).toNat) := by
  have hq : i.toNat < s.size := by omega
  refine ⟨(Utf8.decode s i.toNat).1, fun ty => ?_⟩
  have hb := bt_at s i hq
  have hn := Lib.run_next_any_at (P := P) w K s i.toNat ty hk hq
  have hd : (Utf8.decode s i.toNat).2 = 1 := by
    rw [decode_ascii s i.toNat hq (by rw [← hb] at h2; omega)]
  rw [hd] at hn
  rw [hn, show ((i.toNat : Nat) : Int) = i by omega, show i.toNat + 1 = (i + 1).toNat by omega]
theorem rng_end {P : Program} {w : World} {K : Nat} {s : ByteArray} {i : Int} (hk : w.heap[K]? = some (.stringIter s i.toNat)) (h0 : 0 ≤ i) (h1 : ¬ i < (s.size : Int)) :
    ∀ ty, (Instr.next (.pointer (some ⟨K, 0, none⟩)) true ty).run P w = .ok (.tuple #[.bool false]) w :=
  fun ty => Lib.run_next_end_at (P := P) w K s i.toNat ty hk (by omega)
theorem rng_at {w : World} {K p p' : Nat} {s : ByteArray} (hk : w.heap[K]? = some (.stringIter s p)) : (w.iterAt K s p').heap[K]? = some (.stringIter s p') := Lib.iterAt_heap w K s p p' hk
theorem rng_other {w : World} {K g p : Nat} {s : ByteArray} {o : Obj} (h : w.heap[g]? = some o) (hne : g ≠ K) : (w.iterAt K s p).heap[g]? = some o := (Lib.iterAt_other w K g s p hne).trans h
theorem rng_below {w W : World} {K p : Nat} {s : ByteArray} (h : Below w.heap.size w W) (hK : w.heap.size ≤ K) : Below w.heap.size w (W.iterAt K s p) := Lib.below_iterAt h hK (k := K) s p
end Go.Proofs.YtpdkjehplfgjcabGreatDoor
