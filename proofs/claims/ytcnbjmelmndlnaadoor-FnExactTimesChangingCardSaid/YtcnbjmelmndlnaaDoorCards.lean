/-
  DERIVED. GIVEN WITH THE SEED: THE CARDS: each row of YtcnbjmelmndlnaaDoorRows.lean that lists a variable, with what it lists TIED to the program's text (the seventh form; the later family's looks); each row that meets fmt, with fmt's text TOLD by the authors' own Lean function (tested against real Go, not proved from fmt's source: count such statements apart). THE CARD IS WHAT COUNTS. Prove the row's statement (the work); the ties are given (YtcnbjmelmndlnaaDoorTie.lean); close each card by the builder's one call (the guide's Derived/Test/ToyasCard.lean, 'card_holds'). Laid BY PROGRAM, IN A SANDBOX (cutbox-door.mjs). By AI agents, Wed Nov 11 2026. No macro, syntax, notation, axiom, sorry.
-/
import Derived.Test.YtcnbjmelmndlnaaDoorRows
import GoSem.ClaimSeven
namespace Go.Proofs.YtcnbjmelmndlnaaDoor
namespace Rows

/-- THE TIED CARD OF 'laws.FnExactTimesChanging'. -/
def fnExactTimesChangingCard : Claim7 := { stood := { row := fnExactTimesChangingRow, standIns := [], harness := (true, "0e7033516fb2363236e959edb5407bc69c16127240160ff9ecf7c6aaa637a11f"), looks := false }, kinds := [], alts := [], laidByText := true, laidKinds := [.data, .pinned], laidTests := true, laidLooks := .later }
def FnExactTimesChangingCardSaid : Prop := Claim7.holds Tryd.pinned (.plain (OpenSpec.ofChange fnExactTimesChangingSpec)) fnExactTimesChangingCard

/-- THE SECOND FORM's CARD OF 'laws.FnExactTimesChanging'. -/
def fnExactTimesChangingUptoCard : Claim7 := { stood := { row := fnExactTimesChangingUptoRow, standIns := [], harness := (true, "0e7033516fb2363236e959edb5407bc69c16127240160ff9ecf7c6aaa637a11f"), looks := false }, kinds := [], alts := [], laidByText := true, laidKinds := [.data, .pinned], laidTests := true, laidLooks := .later }
def FnExactTimesChangingUptoCardSaid : Prop := Claim7.holds Tryd.pinned (.plain (OpenSpec.upto fnExactTimesChangingSpec)) fnExactTimesChangingUptoCard
end Rows
end Go.Proofs.YtcnbjmelmndlnaaDoor
