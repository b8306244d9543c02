/-
  DERIVED. GIVEN WITH THE SEED: THE CARDS: each row of YtifdgebdkhdmhaaDoorRows.lean that lists a variable, with what it lists TIED to the program's text (the seventh form; the later family's looks); each row that meets fmt, with fmt's text TOLD by the authors' own Lean function (tested against real Go, not proved from fmt's source: count such statements apart). THE CARD IS WHAT COUNTS. Prove the row's statement (the work); the ties are given (YtifdgebdkhdmhaaDoorTie.lean); close each card by the builder's one call (the guide's Derived/Test/ToyasCard.lean, 'card_holds'). Laid BY PROGRAM, IN A SANDBOX (cutbox-door.mjs). By AI agents, Wed Nov 11 2026. No macro, syntax, notation, axiom, sorry.
-/
import Derived.Test.YtifdgebdkhdmhaaDoorRows
import GoSem.ClaimSeven
namespace Go.Proofs.YtifdgebdkhdmhaaDoor
namespace Rows

/-- THE TIED CARD OF 'laws.FnExactCyclesOfLamps'. -/
def fnExactCyclesOfLampsCard : Claim7 := { stood := { row := fnExactCyclesOfLampsRow, standIns := [], harness := (true, "fcd2132326d098ab171493dc9f9c0b71b0216007aa0e6a450c7485e7799c3308"), looks := true }, kinds := [], alts := [], laidByText := true, laidKinds := [.data, .pinned], laidTests := true, laidLooks := .later }
def FnExactCyclesOfLampsCardSaid : Prop := Claim7.holds Tryd.pinned (.plain (OpenSpec.ofChange fnExactCyclesOfLampsSpec)) fnExactCyclesOfLampsCard

/-- THE TIED CARD OF 'laws.FnExactParsePuzzle'. -/
def fnExactParsePuzzleCard : Claim7 := { stood := { row := fnExactParsePuzzleRow, standIns := [], harness := (true, "fcd2132326d098ab171493dc9f9c0b71b0216007aa0e6a450c7485e7799c3308"), looks := true }, kinds := [], alts := [], laidByText := true, laidKinds := [.data, .data, .data, .data, .sentinel, .sentinel, .pinned], laidTests := true, laidLooks := .later }
def FnExactParsePuzzleCardSaid : Prop := Claim7.holds Tryd.pinned (.plain (OpenSpec.ofChange fnExactParsePuzzleSpec)) fnExactParsePuzzleCard

/-- THE TIED CARD OF 'laws.FnLampsTickOfAll'. -/
def fnLampsTickOfAllCard : Claim7 := { stood := { row := fnLampsTickOfAllRow, standIns := [], harness := (true, "fcd2132326d098ab171493dc9f9c0b71b0216007aa0e6a450c7485e7799c3308"), looks := true }, kinds := [], alts := [], laidByText := true, laidKinds := [.data, .pinned], laidTests := true, laidLooks := .later }
def FnLampsTickOfAllCardSaid : Prop := Claim7.holds Tryd.pinned (.plain (OpenSpec.ofChange fnLampsTickOfAllSpec)) fnLampsTickOfAllCard

/-- THE TIED CARD OF 'laws.FnWalksMeanOfAll'. -/
def fnWalksMeanOfAllCard : Claim7 := { stood := { row := fnWalksMeanOfAllRow, standIns := [], harness := (true, "fcd2132326d098ab171493dc9f9c0b71b0216007aa0e6a450c7485e7799c3308"), looks := true }, kinds := [], alts := [], laidByText := true, laidKinds := [.data, .pinned], laidTests := true, laidLooks := .later }
def FnWalksMeanOfAllCardSaid : Prop := Claim7.holds Tryd.pinned (.plain (OpenSpec.ofChange fnWalksMeanOfAllSpec)) fnWalksMeanOfAllCard

/-- THE TIED CARD OF 'laws.FnStatesCountedOfAll'. -/
def fnStatesCountedOfAllCard : Claim7 := { stood := { row := fnStatesCountedOfAllRow, standIns := [], harness := (true, "fcd2132326d098ab171493dc9f9c0b71b0216007aa0e6a450c7485e7799c3308"), looks := true }, kinds := [], alts := [], laidByText := true, laidKinds := [.data, .pinned], laidTests := true, laidLooks := .later }
def FnStatesCountedOfAllCardSaid : Prop := Claim7.holds Tryd.pinned (.plain (OpenSpec.ofChange fnStatesCountedOfAllSpec)) fnStatesCountedOfAllCard

/-- THE TIED CARD OF 'laws.FnLampsTick'. -/
def fnLampsTickCard : Claim7 := { stood := { row := fnLampsTickRow, standIns := [], harness := (true, "fcd2132326d098ab171493dc9f9c0b71b0216007aa0e6a450c7485e7799c3308"), looks := true }, kinds := [], alts := [], laidByText := true, laidKinds := [.data, .pinned], laidTests := true, laidLooks := .later }
def FnLampsTickCardSaid : Prop := Claim7.holds Tryd.pinned (.plain (OpenSpec.ofChange fnLampsTickSpec)) fnLampsTickCard

/-- THE TIED CARD OF 'laws.FnStatesCounted'. -/
def fnStatesCountedCard : Claim7 := { stood := { row := fnStatesCountedRow, standIns := [], harness := (true, "fcd2132326d098ab171493dc9f9c0b71b0216007aa0e6a450c7485e7799c3308"), looks := true }, kinds := [], alts := [], laidByText := true, laidKinds := [.data, .pinned], laidTests := true, laidLooks := .later }
def FnStatesCountedCardSaid : Prop := Claim7.holds Tryd.pinned (.plain (OpenSpec.ofChange fnStatesCountedSpec)) fnStatesCountedCard

/-- THE TIED CARD OF 'laws.FnWalksMean'. -/
def fnWalksMeanCard : Claim7 := { stood := { row := fnWalksMeanRow, standIns := [], harness := (true, "fcd2132326d098ab171493dc9f9c0b71b0216007aa0e6a450c7485e7799c3308"), looks := true }, kinds := [], alts := [], laidByText := true, laidKinds := [.data, .pinned], laidTests := true, laidLooks := .later }
def FnWalksMeanCardSaid : Prop := Claim7.holds Tryd.pinned (.plain (OpenSpec.ofChange fnWalksMeanSpec)) fnWalksMeanCard

/-- THE SECOND FORM's CARD OF 'laws.FnExactCyclesOfLamps'. -/
def fnExactCyclesOfLampsUptoCard : Claim7 := { stood := { row := fnExactCyclesOfLampsUptoRow, standIns := [], harness := (true, "fcd2132326d098ab171493dc9f9c0b71b0216007aa0e6a450c7485e7799c3308"), looks := true }, kinds := [], alts := [], laidByText := true, laidKinds := [.data, .pinned], laidTests := true, laidLooks := .later }
def FnExactCyclesOfLampsUptoCardSaid : Prop := Claim7.holds Tryd.pinned (.plain (OpenSpec.upto fnExactCyclesOfLampsSpec)) fnExactCyclesOfLampsUptoCard

/-- THE SECOND FORM's CARD OF 'laws.FnExactParsePuzzle'. -/
def fnExactParsePuzzleUptoCard : Claim7 := { stood := { row := fnExactParsePuzzleUptoRow, standIns := [], harness := (true, "fcd2132326d098ab171493dc9f9c0b71b0216007aa0e6a450c7485e7799c3308"), looks := true }, kinds := [], alts := [], laidByText := true, laidKinds := [.data, .data, .data, .data, .sentinel, .sentinel, .pinned], laidTests := true, laidLooks := .later }
def FnExactParsePuzzleUptoCardSaid : Prop := Claim7.holds Tryd.pinned (.plain (OpenSpec.upto fnExactParsePuzzleSpec)) fnExactParsePuzzleUptoCard

/-- THE SECOND FORM's CARD OF 'laws.FnLampsTickOfAll'. -/
def fnLampsTickOfAllUptoCard : Claim7 := { stood := { row := fnLampsTickOfAllUptoRow, standIns := [], harness := (true, "fcd2132326d098ab171493dc9f9c0b71b0216007aa0e6a450c7485e7799c3308"), looks := true }, kinds := [], alts := [], laidByText := true, laidKinds := [.data, .pinned], laidTests := true, laidLooks := .later }
def FnLampsTickOfAllUptoCardSaid : Prop := Claim7.holds Tryd.pinned (.plain (OpenSpec.upto fnLampsTickOfAllSpec)) fnLampsTickOfAllUptoCard

/-- THE SECOND FORM's CARD OF 'laws.FnWalksMeanOfAll'. -/
def fnWalksMeanOfAllUptoCard : Claim7 := { stood := { row := fnWalksMeanOfAllUptoRow, standIns := [], harness := (true, "fcd2132326d098ab171493dc9f9c0b71b0216007aa0e6a450c7485e7799c3308"), looks := true }, kinds := [], alts := [], laidByText := true, laidKinds := [.data, .pinned], laidTests := true, laidLooks := .later }
def FnWalksMeanOfAllUptoCardSaid : Prop := Claim7.holds Tryd.pinned (.plain (OpenSpec.upto fnWalksMeanOfAllSpec)) fnWalksMeanOfAllUptoCard

/-- THE SECOND FORM's CARD OF 'laws.FnStatesCountedOfAll'. -/
def fnStatesCountedOfAllUptoCard : Claim7 := { stood := { row := fnStatesCountedOfAllUptoRow, standIns := [], harness := (true, "fcd2132326d098ab171493dc9f9c0b71b0216007aa0e6a450c7485e7799c3308"), looks := true }, kinds := [], alts := [], laidByText := true, laidKinds := [.data, .pinned], laidTests := true, laidLooks := .later }
def FnStatesCountedOfAllUptoCardSaid : Prop := Claim7.holds Tryd.pinned (.plain (OpenSpec.upto fnStatesCountedOfAllSpec)) fnStatesCountedOfAllUptoCard

/-- THE SECOND FORM's CARD OF 'laws.FnLampsTick'. -/
def fnLampsTickUptoCard : Claim7 := { stood := { row := fnLampsTickUptoRow, standIns := [], harness := (true, "fcd2132326d098ab171493dc9f9c0b71b0216007aa0e6a450c7485e7799c3308"), looks := true }, kinds := [], alts := [], laidByText := true, laidKinds := [.data, .pinned], laidTests := true, laidLooks := .later }
def FnLampsTickUptoCardSaid : Prop := Claim7.holds Tryd.pinned (.plain (OpenSpec.upto fnLampsTickSpec)) fnLampsTickUptoCard

/-- THE SECOND FORM's CARD OF 'laws.FnStatesCounted'. -/
def fnStatesCountedUptoCard : Claim7 := { stood := { row := fnStatesCountedUptoRow, standIns := [], harness := (true, "fcd2132326d098ab171493dc9f9c0b71b0216007aa0e6a450c7485e7799c3308"), looks := true }, kinds := [], alts := [], laidByText := true, laidKinds := [.data, .pinned], laidTests := true, laidLooks := .later }
def FnStatesCountedUptoCardSaid : Prop := Claim7.holds Tryd.pinned (.plain (OpenSpec.upto fnStatesCountedSpec)) fnStatesCountedUptoCard

/-- THE SECOND FORM's CARD OF 'laws.FnWalksMean'. -/
def fnWalksMeanUptoCard : Claim7 := { stood := { row := fnWalksMeanUptoRow, standIns := [], harness := (true, "fcd2132326d098ab171493dc9f9c0b71b0216007aa0e6a450c7485e7799c3308"), looks := true }, kinds := [], alts := [], laidByText := true, laidKinds := [.data, .pinned], laidTests := true, laidLooks := .later }
def FnWalksMeanUptoCardSaid : Prop := Claim7.holds Tryd.pinned (.plain (OpenSpec.upto fnWalksMeanSpec)) fnWalksMeanUptoCard
end Rows
end Go.Proofs.YtifdgebdkhdmhaaDoor
