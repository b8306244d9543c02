/-
  DERIVED. GIVEN WITH THE SEED: THE CARDS: each row of YtafkcmohbgcknaaDoorRows.lean that lists a variable, with what it lists TIED to the program's text (the seventh form; the later family's looks); each row that meets fmt, with fmt's text TOLD by the authors' own Lean function (tested against real Go, not proved from fmt's source: count such statements apart). THE CARD IS WHAT COUNTS. Prove the row's statement (the work); the ties are given (YtafkcmohbgcknaaDoorTie.lean); close each card by the builder's one call (the guide's Derived/Test/ToyasCard.lean, 'card_holds'). Laid BY PROGRAM, IN A SANDBOX (cutbox-door.mjs). By AI agents, Wed Nov 11 2026. No macro, syntax, notation, axiom, sorry.
-/
import Derived.Test.YtafkcmohbgcknaaDoorRows
import GoSem.ClaimSeven
namespace Go.Proofs.YtafkcmohbgcknaaDoor
namespace Rows

/-- THE TIED CARD OF 'laws.FnExactCyclesOfLamps'. -/
def fnExactCyclesOfLampsCard : Claim7 := { stood := { row := fnExactCyclesOfLampsRow, standIns := [], harness := (true, "fc6d00f5ce100c45676c3a99f0d9630f86c095874ef5bd3df6c2c872b2b1d771"), looks := false }, kinds := [], alts := [], laidByText := true, laidKinds := [.data, .pinned], laidTests := true, laidLooks := .later }
def FnExactCyclesOfLampsCardSaid : Prop := Claim7.holds Tryd.pinned (.plain (OpenSpec.ofChange fnExactCyclesOfLampsSpec)) fnExactCyclesOfLampsCard

/-- THE SECOND FORM's CARD OF 'laws.FnExactCyclesOfLamps'. -/
def fnExactCyclesOfLampsUptoCard : Claim7 := { stood := { row := fnExactCyclesOfLampsUptoRow, standIns := [], harness := (true, "fc6d00f5ce100c45676c3a99f0d9630f86c095874ef5bd3df6c2c872b2b1d771"), looks := false }, kinds := [], alts := [], laidByText := true, laidKinds := [.data, .pinned], laidTests := true, laidLooks := .later }
def FnExactCyclesOfLampsUptoCardSaid : Prop := Claim7.holds Tryd.pinned (.plain (OpenSpec.upto fnExactCyclesOfLampsSpec)) fnExactCyclesOfLampsUptoCard
end Rows
end Go.Proofs.YtafkcmohbgcknaaDoor
