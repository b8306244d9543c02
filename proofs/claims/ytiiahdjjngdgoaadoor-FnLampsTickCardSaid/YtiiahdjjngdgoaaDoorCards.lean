/-
  DERIVED. GIVEN WITH THE SEED: THE CARDS: each row of YtiiahdjjngdgoaaDoorRows.lean that lists a variable, with what it lists TIED to the program's text (the seventh form; the later family's looks); each row that meets fmt, with fmt's text TOLD by the authors' own Lean function (tested against real Go, not proved from fmt's source: count such statements apart). THE CARD IS WHAT COUNTS. Prove the row's statement (the work); the ties are given (YtiiahdjjngdgoaaDoorTie.lean); close each card by the builder's one call (the guide's Derived/Test/ToyasCard.lean, 'card_holds'). Laid BY PROGRAM, IN A SANDBOX (cutbox-door.mjs). By AI agents, Wed Nov 11 2026. No macro, syntax, notation, axiom, sorry.
-/
import Derived.Test.YtiiahdjjngdgoaaDoorRows
import GoSem.ClaimSeven
namespace Go.Proofs.YtiiahdjjngdgoaaDoor
namespace Rows

/-- THE TIED CARD OF 'laws.FnLampsTick'. -/
def fnLampsTickCard : Claim7 := { stood := { row := fnLampsTickRow, standIns := [], harness := (true, "e6a41fc73dfde0b944fed4fc5af4ed104188ae98fc6319bd852ec004852096dd"), looks := false }, kinds := [], alts := [], laidByText := true, laidKinds := [.data, .pinned], laidTests := true, laidLooks := .later }
def FnLampsTickCardSaid : Prop := Claim7.holds Tryd.pinned (.plain (OpenSpec.ofChange fnLampsTickSpec)) fnLampsTickCard

/-- THE TIED CARD OF 'laws.FnStatesCounted'. -/
def fnStatesCountedCard : Claim7 := { stood := { row := fnStatesCountedRow, standIns := [], harness := (true, "e6a41fc73dfde0b944fed4fc5af4ed104188ae98fc6319bd852ec004852096dd"), looks := false }, kinds := [], alts := [], laidByText := true, laidKinds := [.data, .pinned], laidTests := true, laidLooks := .later }
def FnStatesCountedCardSaid : Prop := Claim7.holds Tryd.pinned (.plain (OpenSpec.ofChange fnStatesCountedSpec)) fnStatesCountedCard

/-- THE TIED CARD OF 'laws.FnWalksMean'. -/
def fnWalksMeanCard : Claim7 := { stood := { row := fnWalksMeanRow, standIns := [], harness := (true, "e6a41fc73dfde0b944fed4fc5af4ed104188ae98fc6319bd852ec004852096dd"), looks := false }, kinds := [], alts := [], laidByText := true, laidKinds := [.data, .pinned], laidTests := true, laidLooks := .later }
def FnWalksMeanCardSaid : Prop := Claim7.holds Tryd.pinned (.plain (OpenSpec.ofChange fnWalksMeanSpec)) fnWalksMeanCard

/-- THE SECOND FORM's CARD OF 'laws.FnLampsTick'. -/
def fnLampsTickUptoCard : Claim7 := { stood := { row := fnLampsTickUptoRow, standIns := [], harness := (true, "e6a41fc73dfde0b944fed4fc5af4ed104188ae98fc6319bd852ec004852096dd"), looks := false }, kinds := [], alts := [], laidByText := true, laidKinds := [.data, .pinned], laidTests := true, laidLooks := .later }
def FnLampsTickUptoCardSaid : Prop := Claim7.holds Tryd.pinned (.plain (OpenSpec.upto fnLampsTickSpec)) fnLampsTickUptoCard

/-- THE SECOND FORM's CARD OF 'laws.FnStatesCounted'. -/
def fnStatesCountedUptoCard : Claim7 := { stood := { row := fnStatesCountedUptoRow, standIns := [], harness := (true, "e6a41fc73dfde0b944fed4fc5af4ed104188ae98fc6319bd852ec004852096dd"), looks := false }, kinds := [], alts := [], laidByText := true, laidKinds := [.data, .pinned], laidTests := true, laidLooks := .later }
def FnStatesCountedUptoCardSaid : Prop := Claim7.holds Tryd.pinned (.plain (OpenSpec.upto fnStatesCountedSpec)) fnStatesCountedUptoCard

/-- THE SECOND FORM's CARD OF 'laws.FnWalksMean'. -/
def fnWalksMeanUptoCard : Claim7 := { stood := { row := fnWalksMeanUptoRow, standIns := [], harness := (true, "e6a41fc73dfde0b944fed4fc5af4ed104188ae98fc6319bd852ec004852096dd"), looks := false }, kinds := [], alts := [], laidByText := true, laidKinds := [.data, .pinned], laidTests := true, laidLooks := .later }
def FnWalksMeanUptoCardSaid : Prop := Claim7.holds Tryd.pinned (.plain (OpenSpec.upto fnWalksMeanSpec)) fnWalksMeanUptoCard
end Rows
end Go.Proofs.YtiiahdjjngdgoaaDoor
