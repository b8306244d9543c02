/-
  DERIVED. GIVEN WITH THE SEED: THE CARDS: each row of YtpdkjehplfgjcabGreatDoorRows.lean that lists a variable, with what it lists TIED to the program's text (the seventh form; the later family's looks); each row that meets fmt, with fmt's text TOLD by the authors' own Lean function (tested against real Go, not proved from fmt's source: count such statements apart). THE CARD IS WHAT COUNTS. Prove the row's statement (the work); the ties are given (YtpdkjehplfgjcabGreatDoorTie.lean); close each card by the builder's one call (the guide's Derived/Test/ToyasCard.lean, 'card_holds'). Laid BY PROGRAM, IN A SANDBOX (cutbox-door.mjs). By AI agents, Wed Nov 11 2026. No macro, syntax, notation, axiom, sorry.
-/
import Derived.Test.YtpdkjehplfgjcabGreatDoorRows
import GoSem.ClaimSeven
namespace Go.Proofs.YtpdkjehplfgjcabGreatDoor
namespace Rows

/-- THE TIED CARD OF 'laws.FnStatesHidden'. -/
def fnStatesHiddenCard : Claim7 := { stood := { row := fnStatesHiddenRow, standIns := [], harness := (true, "5c51a389b2f2a40c3a5a43d77a142861765d707677036639cfa4d07f682e0bf3"), looks := false }, kinds := [], alts := [], laidByText := true, laidKinds := [.data, .pinned], laidTests := true, laidLooks := .later }
def FnStatesHiddenCardSaid : Prop := Claim7.holds Tryz.pinned (.plain (OpenSpec.ofChange fnStatesHiddenSpec)) fnStatesHiddenCard

/-- THE SECOND FORM's CARD OF 'laws.FnStatesHidden'. -/
def fnStatesHiddenUptoCard : Claim7 := { stood := { row := fnStatesHiddenUptoRow, standIns := [], harness := (true, "5c51a389b2f2a40c3a5a43d77a142861765d707677036639cfa4d07f682e0bf3"), looks := false }, kinds := [], alts := [], laidByText := true, laidKinds := [.data, .pinned], laidTests := true, laidLooks := .later }
def FnStatesHiddenUptoCardSaid : Prop := Claim7.holds Tryz.pinned (.plain (OpenSpec.upto fnStatesHiddenSpec)) fnStatesHiddenUptoCard
end Rows
end Go.Proofs.YtpdkjehplfgjcabGreatDoor
