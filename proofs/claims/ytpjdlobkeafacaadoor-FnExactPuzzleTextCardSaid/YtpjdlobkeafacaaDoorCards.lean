/-
  DERIVED. GIVEN WITH THE SEED: THE CARDS: each row of YtpjdlobkeafacaaDoorRows.lean that lists a variable, with what it lists TIED to the program's text (the seventh form; the later family's looks); each row that meets fmt, with fmt's text TOLD by the authors' own Lean function (tested against real Go, not proved from fmt's source: count such statements apart). THE CARD IS WHAT COUNTS. Prove the row's statement (the work); the ties are given (YtpjdlobkeafacaaDoorTie.lean); close each card by the builder's one call (the guide's Derived/Test/ToyasCard.lean, 'card_holds'). Laid BY PROGRAM, IN A SANDBOX (cutbox-door.mjs). By AI agents, Wed Nov 11 2026. No macro, syntax, notation, axiom, sorry.
-/
import Derived.Test.YtpjdlobkeafacaaDoorRows
import GoSem.ClaimSeven
namespace Go.Proofs.YtpjdlobkeafacaaDoor
namespace Rows

/-- THE TIED CARD OF 'laws.FnExactSureSigns'. -/
def fnExactSureSignsCard : Claim7 := { stood := { row := fnExactSureSignsRow, standIns := [], harness := (true, "cc09532ca0c8081a895765596bc7a2d5b2be6573be7b59245080c1ed6fee2e06"), looks := true }, kinds := [], alts := [], laidByText := true, laidKinds := [.data, .pinned], laidTests := true, laidLooks := .later }
def FnExactSureSignsCardSaid : Prop := Claim7.holds Tryd.pinned (.plain (OpenSpec.ofChange fnExactSureSignsSpec)) fnExactSureSignsCard

/-- THE TIED CARD OF 'laws.FnExactIsUndone'. -/
def fnExactIsUndoneCard : Claim7 := { stood := { row := fnExactIsUndoneRow, standIns := [], harness := (true, "cc09532ca0c8081a895765596bc7a2d5b2be6573be7b59245080c1ed6fee2e06"), looks := true }, kinds := [], alts := [], laidByText := true, laidKinds := [.data, .pinned], laidTests := true, laidLooks := .later }
def FnExactIsUndoneCardSaid : Prop := Claim7.holds Tryd.pinned (.plain (OpenSpec.ofChange fnExactIsUndoneSpec)) fnExactIsUndoneCard

/-- THE TIED CARD OF 'laws.FnExactCycleOfLamps'. -/
def fnExactCycleOfLampsCard : Claim7 := { stood := { row := fnExactCycleOfLampsRow, standIns := [], harness := (true, "cc09532ca0c8081a895765596bc7a2d5b2be6573be7b59245080c1ed6fee2e06"), looks := true }, kinds := [], alts := [], laidByText := true, laidKinds := [.data, .pinned], laidTests := true, laidLooks := .later }
def FnExactCycleOfLampsCardSaid : Prop := Claim7.holds Tryd.pinned (.plain (OpenSpec.ofChange fnExactCycleOfLampsSpec)) fnExactCycleOfLampsCard

/-- THE TIED CARD OF 'laws.FnExactCyclesOfLamps'. -/
def fnExactCyclesOfLampsCard : Claim7 := { stood := { row := fnExactCyclesOfLampsRow, standIns := [], harness := (true, "cc09532ca0c8081a895765596bc7a2d5b2be6573be7b59245080c1ed6fee2e06"), looks := true }, kinds := [], alts := [], laidByText := true, laidKinds := [.data, .pinned], laidTests := true, laidLooks := .later }
def FnExactCyclesOfLampsCardSaid : Prop := Claim7.holds Tryd.pinned (.plain (OpenSpec.ofChange fnExactCyclesOfLampsSpec)) fnExactCyclesOfLampsCard

/-- THE TIED CARD OF 'laws.FnExactParseLamps'. -/
def fnExactParseLampsCard : Claim7 := { stood := { row := fnExactParseLampsRow, standIns := [], harness := (true, "cc09532ca0c8081a895765596bc7a2d5b2be6573be7b59245080c1ed6fee2e06"), looks := true }, kinds := [], alts := [], laidByText := true, laidKinds := [.data, .pinned], laidTests := true, laidLooks := .later }
def FnExactParseLampsCardSaid : Prop := Claim7.holds Tryd.pinned (.plain (OpenSpec.ofChange fnExactParseLampsSpec)) fnExactParseLampsCard

/-- THE TIED CARD OF 'laws.FnExactPuzzleText'. -/
def fnExactPuzzleTextCard : Claim7 := { stood := { row := fnExactPuzzleTextRow, standIns := [], harness := (true, "cc09532ca0c8081a895765596bc7a2d5b2be6573be7b59245080c1ed6fee2e06"), looks := true }, kinds := [], alts := [], laidByText := true, laidKinds := [.data, .data, .data], laidTests := true, laidLooks := .later }
def FnExactPuzzleTextCardSaid : Prop := Claim7.holds Tryd.pinned (.plain (OpenSpec.ofChange fnExactPuzzleTextSpec)) fnExactPuzzleTextCard

/-- THE TIED CARD OF 'laws.FnExactParsePuzzle'. -/
def fnExactParsePuzzleCard : Claim7 := { stood := { row := fnExactParsePuzzleRow, standIns := [], harness := (true, "cc09532ca0c8081a895765596bc7a2d5b2be6573be7b59245080c1ed6fee2e06"), looks := true }, kinds := [], alts := [], laidByText := true, laidKinds := [.data, .data, .data, .data, .sentinel, .sentinel, .pinned], laidTests := true, laidLooks := .later }
def FnExactParsePuzzleCardSaid : Prop := Claim7.holds Tryd.pinned (.plain (OpenSpec.ofChange fnExactParsePuzzleSpec)) fnExactParsePuzzleCard

/-- THE SECOND FORM's CARD OF 'laws.FnExactSureSigns'. -/
def fnExactSureSignsUptoCard : Claim7 := { stood := { row := fnExactSureSignsUptoRow, standIns := [], harness := (true, "cc09532ca0c8081a895765596bc7a2d5b2be6573be7b59245080c1ed6fee2e06"), looks := true }, kinds := [], alts := [], laidByText := true, laidKinds := [.data, .pinned], laidTests := true, laidLooks := .later }
def FnExactSureSignsUptoCardSaid : Prop := Claim7.holds Tryd.pinned (.plain (OpenSpec.upto fnExactSureSignsSpec)) fnExactSureSignsUptoCard

/-- THE SECOND FORM's CARD OF 'laws.FnExactIsUndone'. -/
def fnExactIsUndoneUptoCard : Claim7 := { stood := { row := fnExactIsUndoneUptoRow, standIns := [], harness := (true, "cc09532ca0c8081a895765596bc7a2d5b2be6573be7b59245080c1ed6fee2e06"), looks := true }, kinds := [], alts := [], laidByText := true, laidKinds := [.data, .pinned], laidTests := true, laidLooks := .later }
def FnExactIsUndoneUptoCardSaid : Prop := Claim7.holds Tryd.pinned (.plain (OpenSpec.upto fnExactIsUndoneSpec)) fnExactIsUndoneUptoCard

/-- THE SECOND FORM's CARD OF 'laws.FnExactCycleOfLamps'. -/
def fnExactCycleOfLampsUptoCard : Claim7 := { stood := { row := fnExactCycleOfLampsUptoRow, standIns := [], harness := (true, "cc09532ca0c8081a895765596bc7a2d5b2be6573be7b59245080c1ed6fee2e06"), looks := true }, kinds := [], alts := [], laidByText := true, laidKinds := [.data, .pinned], laidTests := true, laidLooks := .later }
def FnExactCycleOfLampsUptoCardSaid : Prop := Claim7.holds Tryd.pinned (.plain (OpenSpec.upto fnExactCycleOfLampsSpec)) fnExactCycleOfLampsUptoCard

/-- THE SECOND FORM's CARD OF 'laws.FnExactCyclesOfLamps'. -/
def fnExactCyclesOfLampsUptoCard : Claim7 := { stood := { row := fnExactCyclesOfLampsUptoRow, standIns := [], harness := (true, "cc09532ca0c8081a895765596bc7a2d5b2be6573be7b59245080c1ed6fee2e06"), looks := true }, kinds := [], alts := [], laidByText := true, laidKinds := [.data, .pinned], laidTests := true, laidLooks := .later }
def FnExactCyclesOfLampsUptoCardSaid : Prop := Claim7.holds Tryd.pinned (.plain (OpenSpec.upto fnExactCyclesOfLampsSpec)) fnExactCyclesOfLampsUptoCard

/-- THE SECOND FORM's CARD OF 'laws.FnExactParseLamps'. -/
def fnExactParseLampsUptoCard : Claim7 := { stood := { row := fnExactParseLampsUptoRow, standIns := [], harness := (true, "cc09532ca0c8081a895765596bc7a2d5b2be6573be7b59245080c1ed6fee2e06"), looks := true }, kinds := [], alts := [], laidByText := true, laidKinds := [.data, .pinned], laidTests := true, laidLooks := .later }
def FnExactParseLampsUptoCardSaid : Prop := Claim7.holds Tryd.pinned (.plain (OpenSpec.upto fnExactParseLampsSpec)) fnExactParseLampsUptoCard

/-- THE SECOND FORM's CARD OF 'laws.FnExactPuzzleText'. -/
def fnExactPuzzleTextUptoCard : Claim7 := { stood := { row := fnExactPuzzleTextUptoRow, standIns := [], harness := (true, "cc09532ca0c8081a895765596bc7a2d5b2be6573be7b59245080c1ed6fee2e06"), looks := true }, kinds := [], alts := [], laidByText := true, laidKinds := [.data, .data, .data], laidTests := true, laidLooks := .later }
def FnExactPuzzleTextUptoCardSaid : Prop := Claim7.holds Tryd.pinned (.plain (OpenSpec.upto fnExactPuzzleTextSpec)) fnExactPuzzleTextUptoCard

/-- THE SECOND FORM's CARD OF 'laws.FnExactParsePuzzle'. -/
def fnExactParsePuzzleUptoCard : Claim7 := { stood := { row := fnExactParsePuzzleUptoRow, standIns := [], harness := (true, "cc09532ca0c8081a895765596bc7a2d5b2be6573be7b59245080c1ed6fee2e06"), looks := true }, kinds := [], alts := [], laidByText := true, laidKinds := [.data, .data, .data, .data, .sentinel, .sentinel, .pinned], laidTests := true, laidLooks := .later }
def FnExactParsePuzzleUptoCardSaid : Prop := Claim7.holds Tryd.pinned (.plain (OpenSpec.upto fnExactParsePuzzleSpec)) fnExactParsePuzzleUptoCard
end Rows
end Go.Proofs.YtpjdlobkeafacaaDoor
