/-
  DERIVED. GIVEN WITH THE SEED: THE CARDS: each row of YtepaleeepbjkbaaDoorRows.lean that lists a variable, with what it lists TIED to the program's text (the seventh form; the later family's looks); each row that meets fmt, with fmt's text TOLD by the authors' own Lean function (tested against real Go, not proved from fmt's source: count such statements apart). THE CARD IS WHAT COUNTS. Prove the row's statement (the work); the ties are given (YtepaleeepbjkbaaDoorTie.lean); close each card by the builder's one call (the guide's Derived/Test/ToyasCard.lean, 'card_holds'). Laid BY PROGRAM, IN A SANDBOX (cutbox-door.mjs). By AI agents, Wed Nov 11 2026. No macro, syntax, notation, axiom, sorry.
-/
import Derived.Test.YtepaleeepbjkbaaDoorRows
import GoSem.ClaimSeven
namespace Go.Proofs.YtepaleeepbjkbaaDoor
namespace Rows

/-- THE TIED CARD OF 'laws.FnExactIsDesk'. -/
def fnExactIsDeskCard : Claim7 := { stood := { row := fnExactIsDeskRow, standIns := [], harness := (true, "548d53848356c10791dd37fa2919b498fe007e8920b618555e7321f21777486c"), looks := false }, kinds := [], alts := [], laidByText := true, laidKinds := [.data, .pinned], laidTests := true, laidLooks := .later }
def FnExactIsDeskCardSaid : Prop := Claim7.holds Tryd.pinned (.plain (OpenSpec.ofChange fnExactIsDeskSpec)) fnExactIsDeskCard

/-- THE TIED CARD OF 'laws.FnExactLampsNeeded'. -/
def fnExactLampsNeededCard : Claim7 := { stood := { row := fnExactLampsNeededRow, standIns := [], harness := (true, "548d53848356c10791dd37fa2919b498fe007e8920b618555e7321f21777486c"), looks := false }, kinds := [], alts := [], laidByText := true, laidKinds := [.data, .pinned], laidTests := true, laidLooks := .later }
def FnExactLampsNeededCardSaid : Prop := Claim7.holds Tryd.pinned (.plain (OpenSpec.ofChange fnExactLampsNeededSpec)) fnExactLampsNeededCard

/-- THE TIED CARD OF 'laws.FnExactOtherLamps'. -/
def fnExactOtherLampsCard : Claim7 := { stood := { row := fnExactOtherLampsRow, standIns := [], harness := (true, "548d53848356c10791dd37fa2919b498fe007e8920b618555e7321f21777486c"), looks := false }, kinds := [], alts := [], laidByText := true, laidKinds := [.data, .pinned], laidTests := true, laidLooks := .later }
def FnExactOtherLampsCardSaid : Prop := Claim7.holds Tryd.pinned (.plain (OpenSpec.ofChange fnExactOtherLampsSpec)) fnExactOtherLampsCard

/-- THE TIED CARD OF 'laws.FnExactLampsText'. -/
def fnExactLampsTextCard : Claim7 := { stood := { row := fnExactLampsTextRow, standIns := [], harness := (true, "548d53848356c10791dd37fa2919b498fe007e8920b618555e7321f21777486c"), looks := false }, kinds := [], alts := [], laidByText := true, laidKinds := [.data, .pinned], laidTests := true, laidLooks := .later }
def FnExactLampsTextCardSaid : Prop := Claim7.holds Tryd.pinned (.plain (OpenSpec.ofChange fnExactLampsTextSpec)) fnExactLampsTextCard

/-- THE TIED CARD OF 'laws.FnExactTicksAfter'. -/
def fnExactTicksAfterCard : Claim7 := { stood := { row := fnExactTicksAfterRow, standIns := [], harness := (true, "548d53848356c10791dd37fa2919b498fe007e8920b618555e7321f21777486c"), looks := false }, kinds := [], alts := [], laidByText := true, laidKinds := [.data, .pinned], laidTests := true, laidLooks := .later }
def FnExactTicksAfterCardSaid : Prop := Claim7.holds Tryd.pinned (.plain (OpenSpec.ofChange fnExactTicksAfterSpec)) fnExactTicksAfterCard

/-- THE TIED CARD OF 'laws.FnExactLeadOfLamps'. -/
def fnExactLeadOfLampsCard : Claim7 := { stood := { row := fnExactLeadOfLampsRow, standIns := [], harness := (true, "548d53848356c10791dd37fa2919b498fe007e8920b618555e7321f21777486c"), looks := false }, kinds := [], alts := [], laidByText := true, laidKinds := [.data, .pinned], laidTests := true, laidLooks := .later }
def FnExactLeadOfLampsCardSaid : Prop := Claim7.holds Tryd.pinned (.plain (OpenSpec.ofChange fnExactLeadOfLampsSpec)) fnExactLeadOfLampsCard

/-- THE TIED CARD OF 'laws.FnExactFirstTick'. -/
def fnExactFirstTickCard : Claim7 := { stood := { row := fnExactFirstTickRow, standIns := [], harness := (true, "548d53848356c10791dd37fa2919b498fe007e8920b618555e7321f21777486c"), looks := false }, kinds := [], alts := [], laidByText := true, laidKinds := [.data, .pinned], laidTests := true, laidLooks := .later }
def FnExactFirstTickCardSaid : Prop := Claim7.holds Tryd.pinned (.plain (OpenSpec.ofChange fnExactFirstTickSpec)) fnExactFirstTickCard

/-- THE TIED CARD OF 'laws.FnExactStillStates'. -/
def fnExactStillStatesCard : Claim7 := { stood := { row := fnExactStillStatesRow, standIns := [], harness := (true, "548d53848356c10791dd37fa2919b498fe007e8920b618555e7321f21777486c"), looks := false }, kinds := [], alts := [], laidByText := true, laidKinds := [.data, .pinned], laidTests := true, laidLooks := .later }
def FnExactStillStatesCardSaid : Prop := Claim7.holds Tryd.pinned (.plain (OpenSpec.ofChange fnExactStillStatesSpec)) fnExactStillStatesCard

/-- THE TIED CARD OF 'laws.FnExactStatesBefore'. -/
def fnExactStatesBeforeCard : Claim7 := { stood := { row := fnExactStatesBeforeRow, standIns := [], harness := (true, "548d53848356c10791dd37fa2919b498fe007e8920b618555e7321f21777486c"), looks := false }, kinds := [], alts := [], laidByText := true, laidKinds := [.data, .pinned], laidTests := true, laidLooks := .later }
def FnExactStatesBeforeCardSaid : Prop := Claim7.holds Tryd.pinned (.plain (OpenSpec.ofChange fnExactStatesBeforeSpec)) fnExactStatesBeforeCard

/-- THE TIED CARD OF 'laws.FnExactMakePuzzle'. -/
def fnExactMakePuzzleCard : Claim7 := { stood := { row := fnExactMakePuzzleRow, standIns := [], harness := (true, "548d53848356c10791dd37fa2919b498fe007e8920b618555e7321f21777486c"), looks := false }, kinds := [], alts := [], laidByText := true, laidKinds := [.data, .pinned], laidTests := true, laidLooks := .later }
def FnExactMakePuzzleCardSaid : Prop := Claim7.holds Tryd.pinned (.plain (OpenSpec.ofChange fnExactMakePuzzleSpec)) fnExactMakePuzzleCard

/-- THE TIED CARD OF 'laws.FnExactSureSigns'. -/
def fnExactSureSignsCard : Claim7 := { stood := { row := fnExactSureSignsRow, standIns := [], harness := (true, "548d53848356c10791dd37fa2919b498fe007e8920b618555e7321f21777486c"), looks := false }, kinds := [], alts := [], laidByText := true, laidKinds := [.data, .pinned], laidTests := true, laidLooks := .later }
def FnExactSureSignsCardSaid : Prop := Claim7.holds Tryd.pinned (.plain (OpenSpec.ofChange fnExactSureSignsSpec)) fnExactSureSignsCard

/-- THE TIED CARD OF 'laws.FnExactIsUndone'. -/
def fnExactIsUndoneCard : Claim7 := { stood := { row := fnExactIsUndoneRow, standIns := [], harness := (true, "548d53848356c10791dd37fa2919b498fe007e8920b618555e7321f21777486c"), looks := false }, kinds := [], alts := [], laidByText := true, laidKinds := [.data, .pinned], laidTests := true, laidLooks := .later }
def FnExactIsUndoneCardSaid : Prop := Claim7.holds Tryd.pinned (.plain (OpenSpec.ofChange fnExactIsUndoneSpec)) fnExactIsUndoneCard

/-- THE SECOND FORM's CARD OF 'laws.FnExactIsDesk'. -/
def fnExactIsDeskUptoCard : Claim7 := { stood := { row := fnExactIsDeskUptoRow, standIns := [], harness := (true, "548d53848356c10791dd37fa2919b498fe007e8920b618555e7321f21777486c"), looks := false }, kinds := [], alts := [], laidByText := true, laidKinds := [.data, .pinned], laidTests := true, laidLooks := .later }
def FnExactIsDeskUptoCardSaid : Prop := Claim7.holds Tryd.pinned (.plain (OpenSpec.upto fnExactIsDeskSpec)) fnExactIsDeskUptoCard

/-- THE SECOND FORM's CARD OF 'laws.FnExactLampsNeeded'. -/
def fnExactLampsNeededUptoCard : Claim7 := { stood := { row := fnExactLampsNeededUptoRow, standIns := [], harness := (true, "548d53848356c10791dd37fa2919b498fe007e8920b618555e7321f21777486c"), looks := false }, kinds := [], alts := [], laidByText := true, laidKinds := [.data, .pinned], laidTests := true, laidLooks := .later }
def FnExactLampsNeededUptoCardSaid : Prop := Claim7.holds Tryd.pinned (.plain (OpenSpec.upto fnExactLampsNeededSpec)) fnExactLampsNeededUptoCard

/-- THE SECOND FORM's CARD OF 'laws.FnExactOtherLamps'. -/
def fnExactOtherLampsUptoCard : Claim7 := { stood := { row := fnExactOtherLampsUptoRow, standIns := [], harness := (true, "548d53848356c10791dd37fa2919b498fe007e8920b618555e7321f21777486c"), looks := false }, kinds := [], alts := [], laidByText := true, laidKinds := [.data, .pinned], laidTests := true, laidLooks := .later }
def FnExactOtherLampsUptoCardSaid : Prop := Claim7.holds Tryd.pinned (.plain (OpenSpec.upto fnExactOtherLampsSpec)) fnExactOtherLampsUptoCard

/-- THE SECOND FORM's CARD OF 'laws.FnExactLampsText'. -/
def fnExactLampsTextUptoCard : Claim7 := { stood := { row := fnExactLampsTextUptoRow, standIns := [], harness := (true, "548d53848356c10791dd37fa2919b498fe007e8920b618555e7321f21777486c"), looks := false }, kinds := [], alts := [], laidByText := true, laidKinds := [.data, .pinned], laidTests := true, laidLooks := .later }
def FnExactLampsTextUptoCardSaid : Prop := Claim7.holds Tryd.pinned (.plain (OpenSpec.upto fnExactLampsTextSpec)) fnExactLampsTextUptoCard

/-- THE SECOND FORM's CARD OF 'laws.FnExactTicksAfter'. -/
def fnExactTicksAfterUptoCard : Claim7 := { stood := { row := fnExactTicksAfterUptoRow, standIns := [], harness := (true, "548d53848356c10791dd37fa2919b498fe007e8920b618555e7321f21777486c"), looks := false }, kinds := [], alts := [], laidByText := true, laidKinds := [.data, .pinned], laidTests := true, laidLooks := .later }
def FnExactTicksAfterUptoCardSaid : Prop := Claim7.holds Tryd.pinned (.plain (OpenSpec.upto fnExactTicksAfterSpec)) fnExactTicksAfterUptoCard

/-- THE SECOND FORM's CARD OF 'laws.FnExactLeadOfLamps'. -/
def fnExactLeadOfLampsUptoCard : Claim7 := { stood := { row := fnExactLeadOfLampsUptoRow, standIns := [], harness := (true, "548d53848356c10791dd37fa2919b498fe007e8920b618555e7321f21777486c"), looks := false }, kinds := [], alts := [], laidByText := true, laidKinds := [.data, .pinned], laidTests := true, laidLooks := .later }
def FnExactLeadOfLampsUptoCardSaid : Prop := Claim7.holds Tryd.pinned (.plain (OpenSpec.upto fnExactLeadOfLampsSpec)) fnExactLeadOfLampsUptoCard

/-- THE SECOND FORM's CARD OF 'laws.FnExactFirstTick'. -/
def fnExactFirstTickUptoCard : Claim7 := { stood := { row := fnExactFirstTickUptoRow, standIns := [], harness := (true, "548d53848356c10791dd37fa2919b498fe007e8920b618555e7321f21777486c"), looks := false }, kinds := [], alts := [], laidByText := true, laidKinds := [.data, .pinned], laidTests := true, laidLooks := .later }
def FnExactFirstTickUptoCardSaid : Prop := Claim7.holds Tryd.pinned (.plain (OpenSpec.upto fnExactFirstTickSpec)) fnExactFirstTickUptoCard

/-- THE SECOND FORM's CARD OF 'laws.FnExactStillStates'. -/
def fnExactStillStatesUptoCard : Claim7 := { stood := { row := fnExactStillStatesUptoRow, standIns := [], harness := (true, "548d53848356c10791dd37fa2919b498fe007e8920b618555e7321f21777486c"), looks := false }, kinds := [], alts := [], laidByText := true, laidKinds := [.data, .pinned], laidTests := true, laidLooks := .later }
def FnExactStillStatesUptoCardSaid : Prop := Claim7.holds Tryd.pinned (.plain (OpenSpec.upto fnExactStillStatesSpec)) fnExactStillStatesUptoCard

/-- THE SECOND FORM's CARD OF 'laws.FnExactStatesBefore'. -/
def fnExactStatesBeforeUptoCard : Claim7 := { stood := { row := fnExactStatesBeforeUptoRow, standIns := [], harness := (true, "548d53848356c10791dd37fa2919b498fe007e8920b618555e7321f21777486c"), looks := false }, kinds := [], alts := [], laidByText := true, laidKinds := [.data, .pinned], laidTests := true, laidLooks := .later }
def FnExactStatesBeforeUptoCardSaid : Prop := Claim7.holds Tryd.pinned (.plain (OpenSpec.upto fnExactStatesBeforeSpec)) fnExactStatesBeforeUptoCard

/-- THE SECOND FORM's CARD OF 'laws.FnExactMakePuzzle'. -/
def fnExactMakePuzzleUptoCard : Claim7 := { stood := { row := fnExactMakePuzzleUptoRow, standIns := [], harness := (true, "548d53848356c10791dd37fa2919b498fe007e8920b618555e7321f21777486c"), looks := false }, kinds := [], alts := [], laidByText := true, laidKinds := [.data, .pinned], laidTests := true, laidLooks := .later }
def FnExactMakePuzzleUptoCardSaid : Prop := Claim7.holds Tryd.pinned (.plain (OpenSpec.upto fnExactMakePuzzleSpec)) fnExactMakePuzzleUptoCard

/-- THE SECOND FORM's CARD OF 'laws.FnExactSureSigns'. -/
def fnExactSureSignsUptoCard : Claim7 := { stood := { row := fnExactSureSignsUptoRow, standIns := [], harness := (true, "548d53848356c10791dd37fa2919b498fe007e8920b618555e7321f21777486c"), looks := false }, kinds := [], alts := [], laidByText := true, laidKinds := [.data, .pinned], laidTests := true, laidLooks := .later }
def FnExactSureSignsUptoCardSaid : Prop := Claim7.holds Tryd.pinned (.plain (OpenSpec.upto fnExactSureSignsSpec)) fnExactSureSignsUptoCard

/-- THE SECOND FORM's CARD OF 'laws.FnExactIsUndone'. -/
def fnExactIsUndoneUptoCard : Claim7 := { stood := { row := fnExactIsUndoneUptoRow, standIns := [], harness := (true, "548d53848356c10791dd37fa2919b498fe007e8920b618555e7321f21777486c"), looks := false }, kinds := [], alts := [], laidByText := true, laidKinds := [.data, .pinned], laidTests := true, laidLooks := .later }
def FnExactIsUndoneUptoCardSaid : Prop := Claim7.holds Tryd.pinned (.plain (OpenSpec.upto fnExactIsUndoneSpec)) fnExactIsUndoneUptoCard
end Rows
end Go.Proofs.YtepaleeepbjkbaaDoor
