/-
  DERIVED. GIVEN WITH THE SEED: THE CARDS: each row of YtcogjabdddikjaaDoorRows.lean that lists a variable, with what it lists TIED to the program's text (the seventh form; the later family's looks); each row that meets fmt, with fmt's text TOLD by the authors' own Lean function (tested against real Go, not proved from fmt's source: count such statements apart). THE CARD IS WHAT COUNTS. Prove the row's statement (the work); the ties are given (YtcogjabdddikjaaDoorTie.lean); close each card by the builder's one call (the guide's Derived/Test/ToyasCard.lean, 'card_holds'). Laid BY PROGRAM, IN A SANDBOX (cutbox-door.mjs). By AI agents, Wed Nov 11 2026. No macro, syntax, notation, axiom, sorry.
-/
import Derived.Test.YtcogjabdddikjaaDoorRows
import GoSem.ClaimSeven
namespace Go.Proofs.YtcogjabdddikjaaDoor
namespace Rows

/-- THE TIED CARD OF 'laws.FnStatesCounted'. -/
def fnStatesCountedCard : Claim7 := { stood := { row := fnStatesCountedRow, standIns := [], harness := (true, "a0471e2b0e77f204b9c855c855fc104406bc322480a801e419d11e264f17489f"), looks := false }, kinds := [], alts := [], laidByText := true, laidKinds := [.data, .pinned], laidTests := true, laidLooks := .later }
def FnStatesCountedCardSaid : Prop := Claim7.holds Tryd.pinned (.plain (OpenSpec.ofChange fnStatesCountedSpec)) fnStatesCountedCard

/-- THE TIED CARD OF 'laws.FnWalksMean'. -/
def fnWalksMeanCard : Claim7 := { stood := { row := fnWalksMeanRow, standIns := [], harness := (true, "a0471e2b0e77f204b9c855c855fc104406bc322480a801e419d11e264f17489f"), looks := false }, kinds := [], alts := [], laidByText := true, laidKinds := [.data, .pinned], laidTests := true, laidLooks := .later }
def FnWalksMeanCardSaid : Prop := Claim7.holds Tryd.pinned (.plain (OpenSpec.ofChange fnWalksMeanSpec)) fnWalksMeanCard

/-- THE TIED CARD OF 'laws.FnStatesHiddenOfAll'. -/
def fnStatesHiddenOfAllCard : Claim7 := { stood := { row := fnStatesHiddenOfAllRow, standIns := [], harness := (true, "a0471e2b0e77f204b9c855c855fc104406bc322480a801e419d11e264f17489f"), looks := false }, kinds := [], alts := [], laidByText := true, laidKinds := [.data, .pinned], laidTests := true, laidLooks := .later }
def FnStatesHiddenOfAllCardSaid : Prop := Claim7.holds Tryd.pinned (.plain (OpenSpec.ofChange fnStatesHiddenOfAllSpec)) fnStatesHiddenOfAllCard

/-- THE SECOND FORM's CARD OF 'laws.FnStatesCounted'. -/
def fnStatesCountedUptoCard : Claim7 := { stood := { row := fnStatesCountedUptoRow, standIns := [], harness := (true, "a0471e2b0e77f204b9c855c855fc104406bc322480a801e419d11e264f17489f"), looks := false }, kinds := [], alts := [], laidByText := true, laidKinds := [.data, .pinned], laidTests := true, laidLooks := .later }
def FnStatesCountedUptoCardSaid : Prop := Claim7.holds Tryd.pinned (.plain (OpenSpec.upto fnStatesCountedSpec)) fnStatesCountedUptoCard

/-- THE SECOND FORM's CARD OF 'laws.FnWalksMean'. -/
def fnWalksMeanUptoCard : Claim7 := { stood := { row := fnWalksMeanUptoRow, standIns := [], harness := (true, "a0471e2b0e77f204b9c855c855fc104406bc322480a801e419d11e264f17489f"), looks := false }, kinds := [], alts := [], laidByText := true, laidKinds := [.data, .pinned], laidTests := true, laidLooks := .later }
def FnWalksMeanUptoCardSaid : Prop := Claim7.holds Tryd.pinned (.plain (OpenSpec.upto fnWalksMeanSpec)) fnWalksMeanUptoCard

/-- THE SECOND FORM's CARD OF 'laws.FnStatesHiddenOfAll'. -/
def fnStatesHiddenOfAllUptoCard : Claim7 := { stood := { row := fnStatesHiddenOfAllUptoRow, standIns := [], harness := (true, "a0471e2b0e77f204b9c855c855fc104406bc322480a801e419d11e264f17489f"), looks := false }, kinds := [], alts := [], laidByText := true, laidKinds := [.data, .pinned], laidTests := true, laidLooks := .later }
def FnStatesHiddenOfAllUptoCardSaid : Prop := Claim7.holds Tryd.pinned (.plain (OpenSpec.upto fnStatesHiddenOfAllSpec)) fnStatesHiddenOfAllUptoCard
end Rows
end Go.Proofs.YtcogjabdddikjaaDoor
