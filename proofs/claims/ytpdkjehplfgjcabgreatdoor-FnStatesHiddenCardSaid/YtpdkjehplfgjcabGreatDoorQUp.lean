/- Facts carried from a world to a later one: the worlds between are found by instances, so that a long text gets shorter. No condition. -/
import Derived.Test.YtpdkjehplfgjcabGreatDoorQLib
namespace Go.Proofs.YtpdkjehplfgjcabGreatDoor
open Go Go.RowKit Go.Proofs.YtpdkjehplfgjcabGreatDoorW.PrintWords Go.Proofs.YtpdkjehplfgjcabGreatDoorW.PrintLast Go.Proofs.YtpdkjehplfgjcabGreatDoorW.PrintMore
set_option linter.unusedVariables false
/-- The second world comes after the first by making and drawing alone. -/
class Later (w w' : World) : Prop where out : Below w.heap.size w w'
instance (priority := low) laterRefl (w : World) : Later w w := ⟨Below.refl _ _⟩
instance laterAlloc (w w' : World) (o : Obj) [h : Later w w'] : Later w (w'.alloc o) := ⟨below_alloc h.out o⟩
instance laterDrew (w w' : World) [h : Later w w'] : Later w w'.drew := ⟨below_drew1 h.out⟩
instance laterDrewN (w w' : World) (n : Nat) [h : Later w w'] : Later w (w'.drewN n) := ⟨pw_below_drewN h.out n⟩
theorem rU {α : Type} {d : Kd α} {e base : Nat} {ok : Nat → Prop} {w w' : World} {v : Value} {xs : List α} (h : d.R e w base ok v xs) [l : Later w w'] : d.R e w' base ok v xs := Kd.R_below h l.out
theorem bU {w w' : World} {g : Nat} {o : Obj} (h : w.heap[g]? = some o) [l : Later w w'] : w'.heap[g]? = some o := blk_below h l.out
theorem cU {α : Type} {d : Kd α} {w w' : World} {A : Option Addr} {n : Nat} {xs : List α} (h : d.C w A n xs) [l : Later w w'] : d.C w' A n xs := Kd.C_below h l.out
theorem aM {p : Prop} (h : p) : Aside0 p := ⟨h⟩
theorem aL {w W : World} (h : Below w.heap.size w W) (o : Obj) : Below w.heap.size w (W.alloc o) := below_alloc h o
end Go.Proofs.YtpdkjehplfgjcabGreatDoor
