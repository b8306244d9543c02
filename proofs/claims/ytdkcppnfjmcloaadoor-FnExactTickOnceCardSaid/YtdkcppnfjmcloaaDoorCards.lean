/-
  DERIVED. GIVEN WITH THE SEED: THE CARDS: each row of YtdkcppnfjmcloaaDoorRows.lean that lists a variable, with what it lists TIED to the program's text (the seventh form; the later family's looks); each row that meets fmt, with fmt's text TOLD by the authors' own Lean function (tested against real Go, not proved from fmt's source: count such statements apart). THE CARD IS WHAT COUNTS. Prove the row's statement (the work); the ties are given (YtdkcppnfjmcloaaDoorTie.lean); close each card by the builder's one call (the guide's Derived/Test/ToyasCard.lean, 'card_holds'). Laid BY PROGRAM, IN A SANDBOX (cutbox-door.mjs). By AI agents, Wed Nov 11 2026. No macro, syntax, notation, axiom, sorry.
-/
import Derived.Test.YtdkcppnfjmcloaaDoorRows
import GoSem.ClaimSeven
namespace Go.Proofs.YtdkcppnfjmcloaaDoor
namespace Rows

/-- THE TIED CARD OF 'laws.FnExactAreLamps'. -/
def fnExactAreLampsCard : Claim7 := { stood := { row := fnExactAreLampsRow, standIns := [], harness := (true, "86df8506ad8aae97a03be283d90b5495b6b24c53e33c2c5f2a56d70301e9847c"), looks := false }, kinds := [], alts := [], laidByText := true, laidKinds := [.data, .pinned], laidTests := true, laidLooks := .later }
def FnExactAreLampsCardSaid : Prop := Claim7.holds Tryd.pinned (.plain (OpenSpec.ofChange fnExactAreLampsSpec)) fnExactAreLampsCard

/-- THE TIED CARD OF 'laws.FnExactTickOnce'. -/
def fnExactTickOnceCard : Claim7 := { stood := { row := fnExactTickOnceRow, standIns := [], harness := (true, "86df8506ad8aae97a03be283d90b5495b6b24c53e33c2c5f2a56d70301e9847c"), looks := false }, kinds := [], alts := [], laidByText := true, laidKinds := [.data, .pinned], laidTests := true, laidLooks := .later }
def FnExactTickOnceCardSaid : Prop := Claim7.holds Tryd.pinned (.plain (OpenSpec.ofChange fnExactTickOnceSpec)) fnExactTickOnceCard

/-- THE TIED CARD OF 'laws.FnExactPuzzleText'. -/
def fnExactPuzzleTextCard : Claim7 := { stood := { row := fnExactPuzzleTextRow, standIns := [], harness := (true, "86df8506ad8aae97a03be283d90b5495b6b24c53e33c2c5f2a56d70301e9847c"), looks := false }, kinds := [], alts := [], laidByText := true, laidKinds := [.data, .data, .data], laidTests := true, laidLooks := .later }
def FnExactPuzzleTextCardSaid : Prop := Claim7.holds Tryd.pinned (.plain (OpenSpec.ofChange fnExactPuzzleTextSpec)) fnExactPuzzleTextCard

/-- THE SECOND FORM's CARD OF 'laws.FnExactAreLamps'. -/
def fnExactAreLampsUptoCard : Claim7 := { stood := { row := fnExactAreLampsUptoRow, standIns := [], harness := (true, "86df8506ad8aae97a03be283d90b5495b6b24c53e33c2c5f2a56d70301e9847c"), looks := false }, kinds := [], alts := [], laidByText := true, laidKinds := [.data, .pinned], laidTests := true, laidLooks := .later }
def FnExactAreLampsUptoCardSaid : Prop := Claim7.holds Tryd.pinned (.plain (OpenSpec.upto fnExactAreLampsSpec)) fnExactAreLampsUptoCard

/-- THE SECOND FORM's CARD OF 'laws.FnExactTickOnce'. -/
def fnExactTickOnceUptoCard : Claim7 := { stood := { row := fnExactTickOnceUptoRow, standIns := [], harness := (true, "86df8506ad8aae97a03be283d90b5495b6b24c53e33c2c5f2a56d70301e9847c"), looks := false }, kinds := [], alts := [], laidByText := true, laidKinds := [.data, .pinned], laidTests := true, laidLooks := .later }
def FnExactTickOnceUptoCardSaid : Prop := Claim7.holds Tryd.pinned (.plain (OpenSpec.upto fnExactTickOnceSpec)) fnExactTickOnceUptoCard

/-- THE SECOND FORM's CARD OF 'laws.FnExactPuzzleText'. -/
def fnExactPuzzleTextUptoCard : Claim7 := { stood := { row := fnExactPuzzleTextUptoRow, standIns := [], harness := (true, "86df8506ad8aae97a03be283d90b5495b6b24c53e33c2c5f2a56d70301e9847c"), looks := false }, kinds := [], alts := [], laidByText := true, laidKinds := [.data, .data, .data], laidTests := true, laidLooks := .later }
def FnExactPuzzleTextUptoCardSaid : Prop := Claim7.holds Tryd.pinned (.plain (OpenSpec.upto fnExactPuzzleTextSpec)) fnExactPuzzleTextUptoCard
end Rows
end Go.Proofs.YtdkcppnfjmcloaaDoor
