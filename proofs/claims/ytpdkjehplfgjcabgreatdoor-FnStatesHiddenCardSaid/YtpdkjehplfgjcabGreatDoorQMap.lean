/- A map of texts to numbers that a call made: which texts it has, and where each stands in a list. No condition beyond each law's own. -/
import Derived.Test.YtpdkjehplfgjcabGreatDoorQState
import Derived.Maps.Own
import Derived.Maps.Views
import Derived.Maps.OwnSet
namespace Go.Proofs.YtpdkjehplfgjcabGreatDoor
open Go.MapKept Go.ChangeMaps Go.WideMaps Go.RowKit Go.Proofs.YtpdkjehplfgjcabGreatDoorW.PrintWords Go.Proofs.YtpdkjehplfgjcabGreatDoorW.PrintLast Go.Proofs.YtpdkjehplfgjcabGreatDoorW.PrintMore
set_option linter.unusedVariables false
set_option linter.unusedSimpArgs false
instance baEq : DecidableEq ByteArray := fun a b => decidable_of_iff (a.data = b.data) ⟨ByteArray.ext, fun h => by rw [h]⟩
instance baMem (s : ByteArray) (l : List ByteArray) : Decidable (s ∈ l) := decidable_of_iff (l.any (fun x => decide (x = s)) = true) (by simp)
section
variable {P : Program} {t k e : TypeId} {w : World} {b : Nat} {acc : List ByteArray}
end
section
variable {P : Program} {t k e : TypeId} {w : World} {b : Nat} {acc : List ByteArray}
end
end Go.Proofs.YtpdkjehplfgjcabGreatDoor
