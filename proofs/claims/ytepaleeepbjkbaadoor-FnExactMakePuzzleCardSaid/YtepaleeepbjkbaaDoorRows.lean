/-
  NARROWER THAN 'FOR EVERY INPUT', by the rows' own cells (each row's printed sentence says how): FnExactIsDesk: laid · FnExactLampsNeeded: laid · FnExactOtherLamps: laid · FnExactLampsText: laid · FnExactTicksAfter: laid · FnExactLeadOfLamps: laid · FnExactFirstTick: laid · FnExactStillStates: laid · FnExactStatesBefore: laid · FnExactMakePuzzle: laid · FnExactSureSigns: laid · FnExactIsUndone: laid.
  DERIVED. THE GIVEN ROWS OF THIS SEAT. 12 by the template 'for every input the law returns true; each argument reads behind the call as it read before'; 0 by the template 'total and deterministic' (their statements: YtepaleeepbjkbaaDoorTotals.lean).
  GIVEN WITH THE SEED: the statements are not yours to turn. If you find one false, say at which input.
  Laid BY PROGRAM, IN A SANDBOX (cutbox-rows.mjs): the forced cells as the released guide's own fill.sh prints them over the translation 492623adf07958fd… (all of the seat's roots in one cut). By AI agents, Wed Nov 11 2026. No macro, syntax, notation, axiom, sorry.
-/
import Derived.Test.YtepaleeepbjkbaaDoorChecked
import GoSem.PinnedTables
import GoSem.Claim
import GoSem.ClaimJoined
import GoSem.ClaimMapViews
import Derived.JoinedTies
import Derived.KernelRfl
namespace Go.Proofs.YtepaleeepbjkbaaDoor
/- THE CELL 'sum', in the pinned program and in every row, IS THE sha256 OF THE DUMP (.gsa) THAT YtepaleeepbjkbaaDoorProg.lean LOADS. Nothing in Lean hashes anything: it is a label: what it is worth is what the hold of that sum in a sandbox is worth. -/
noncomputable def Tryd.pinned : Pinned := { name := "ytepaleeepbjkbaadoor", sum := "492623adf07958fde94b76a58b20ea7edb0787dec2c9313b794ca4fe203d903e", checked := Tryd.checked }
namespace Rows
def none {H : Type} : Left H := { results := [], args := [] }

/- WHAT THE LISTED PACKAGE-LEVEL VARIABLES READ AS WHEN THE CALL BEGINS. Each datum BY PROGRAM (the guide's laid-datum.mjs) off the statement by which the dump's own 'gosem.cut.vars' lays the variable. In a bare row this is a premise. The card (YtepaleeepbjkbaaDoorCards.lean) ties it to the program's text. -/
def laid_unicode_utf8_acceptRanges {H : Type} : DataW H := .agg [.agg [.lit (.int .u8 128), .lit (.int .u8 191)], .agg [.lit (.int .u8 160), .lit (.int .u8 191)], .agg [.lit (.int .u8 128), .lit (.int .u8 159)], .agg [.lit (.int .u8 144), .lit (.int .u8 191)], .agg [.lit (.int .u8 128), .lit (.int .u8 143)], .agg [.lit (.int .u8 0), .lit (.int .u8 0)], .agg [.lit (.int .u8 0), .lit (.int .u8 0)], .agg [.lit (.int .u8 0), .lit (.int .u8 0)], .agg [.lit (.int .u8 0), .lit (.int .u8 0)], .agg [.lit (.int .u8 0), .lit (.int .u8 0)], .agg [.lit (.int .u8 0), .lit (.int .u8 0)], .agg [.lit (.int .u8 0), .lit (.int .u8 0)], .agg [.lit (.int .u8 0), .lit (.int .u8 0)], .agg [.lit (.int .u8 0), .lit (.int .u8 0)], .agg [.lit (.int .u8 0), .lit (.int .u8 0)], .agg [.lit (.int .u8 0), .lit (.int .u8 0)]]
/-- One of Go's own tables, pinned by name: the form's constant. -/
def laid_unicode_utf8_first : DataW Unit := Go.Pinned.utf8First

/-- 'laws.FnExactIsDesk': WHATEVER THE INPUT: true; the input reads as it did. -/
def fnExactIsDeskSpec : ChangeSpec := { name := "fnExactIsDesk", fn := fun _ => fun
  | [d] => { results := [.lit (.bool true)], args := [d] }
  | _ => none }
def fnExactIsDeskRow : OpenClaim := { program := "ytepaleeepbjkbaadoor", sum := "492623adf07958fde94b76a58b20ea7edb0787dec2c9313b794ca4fe203d903e", func := "loop.example/g01314/laws.FnExactIsDesk", spec := "fnExactIsDesk", inPlace := ["internal/bytealg.IndexByteString", "internal/bytealg.IndexString"], unfollowed := true, recurses := true, named := ["unicode/utf8.first", "unicode/utf8.acceptRanges", "internal/bytealg.MaxLen"], apart := false, laid := [("unicode/utf8.acceptRanges", laid_unicode_utf8_acceptRanges), ("unicode/utf8.first", laid_unicode_utf8_first)] }
def FnExactIsDeskSaid : Prop := fnExactIsDeskRow.holds Tryd.pinned (OpenSpec.ofChange fnExactIsDeskSpec)

/-- ITS FALSE NEIGHBOUR: 'it returns false'. Refute it at one input. -/
def fnExactIsDeskWrong : ChangeSpec := { name := "fnExactIsDesk", fn := fun _ => fun
  | [d] => { results := [.lit (.bool false)], args := [d] }
  | _ => none }
def FnExactIsDeskWrongFalsely : Prop := fnExactIsDeskRow.holds Tryd.pinned (OpenSpec.ofChange fnExactIsDeskWrong)

/-- 'laws.FnExactLampsNeeded': WHATEVER THE INPUT: true; the input reads as it did. -/
def fnExactLampsNeededSpec : ChangeSpec := { name := "fnExactLampsNeeded", fn := fun _ => fun
  | [d1, d2] => { results := [.lit (.bool true)], args := [d1, d2] }
  | _ => none }
def fnExactLampsNeededRow : OpenClaim := { program := "ytepaleeepbjkbaadoor", sum := "492623adf07958fde94b76a58b20ea7edb0787dec2c9313b794ca4fe203d903e", func := "loop.example/g01314/laws.FnExactLampsNeeded", spec := "fnExactLampsNeeded", inPlace := ["internal/bytealg.IndexByteString", "internal/bytealg.IndexString"], unfollowed := true, recurses := true, named := ["unicode/utf8.first", "unicode/utf8.acceptRanges", "internal/bytealg.MaxLen"], apart := false, laid := [("unicode/utf8.acceptRanges", laid_unicode_utf8_acceptRanges), ("unicode/utf8.first", laid_unicode_utf8_first)] }
def FnExactLampsNeededSaid : Prop := fnExactLampsNeededRow.holds Tryd.pinned (OpenSpec.ofChange fnExactLampsNeededSpec)

/-- ITS FALSE NEIGHBOUR: 'it returns false'. Refute it at one input. -/
def fnExactLampsNeededWrong : ChangeSpec := { name := "fnExactLampsNeeded", fn := fun _ => fun
  | [d1, d2] => { results := [.lit (.bool false)], args := [d1, d2] }
  | _ => none }
def FnExactLampsNeededWrongFalsely : Prop := fnExactLampsNeededRow.holds Tryd.pinned (OpenSpec.ofChange fnExactLampsNeededWrong)

/-- 'laws.FnExactOtherLamps': WHATEVER THE INPUT: true; the input reads as it did. -/
def fnExactOtherLampsSpec : ChangeSpec := { name := "fnExactOtherLamps", fn := fun _ => fun
  | [d] => { results := [.lit (.bool true)], args := [d] }
  | _ => none }
def fnExactOtherLampsRow : OpenClaim := { program := "ytepaleeepbjkbaadoor", sum := "492623adf07958fde94b76a58b20ea7edb0787dec2c9313b794ca4fe203d903e", func := "loop.example/g01314/laws.FnExactOtherLamps", spec := "fnExactOtherLamps", inPlace := ["internal/bytealg.IndexByteString", "internal/bytealg.IndexString"], unfollowed := true, recurses := true, named := ["unicode/utf8.first", "unicode/utf8.acceptRanges", "internal/bytealg.MaxLen"], apart := false, laid := [("unicode/utf8.acceptRanges", laid_unicode_utf8_acceptRanges), ("unicode/utf8.first", laid_unicode_utf8_first)] }
def FnExactOtherLampsSaid : Prop := fnExactOtherLampsRow.holds Tryd.pinned (OpenSpec.ofChange fnExactOtherLampsSpec)

/-- ITS FALSE NEIGHBOUR: 'it returns false'. Refute it at one input. -/
def fnExactOtherLampsWrong : ChangeSpec := { name := "fnExactOtherLamps", fn := fun _ => fun
  | [d] => { results := [.lit (.bool false)], args := [d] }
  | _ => none }
def FnExactOtherLampsWrongFalsely : Prop := fnExactOtherLampsRow.holds Tryd.pinned (OpenSpec.ofChange fnExactOtherLampsWrong)

/-- 'laws.FnExactLampsText': WHATEVER THE INPUT: true; the input reads as it did. -/
def fnExactLampsTextSpec : ChangeSpec := { name := "fnExactLampsText", fn := fun _ => fun
  | [d] => { results := [.lit (.bool true)], args := [d] }
  | _ => none }
def fnExactLampsTextRow : OpenClaim := { program := "ytepaleeepbjkbaadoor", sum := "492623adf07958fde94b76a58b20ea7edb0787dec2c9313b794ca4fe203d903e", func := "loop.example/g01314/laws.FnExactLampsText", spec := "fnExactLampsText", inPlace := ["internal/bytealg.IndexByteString", "internal/bytealg.IndexString", "internal/abi.NoEscape", "internal/bytealg.MakeNoZero"], unfollowed := true, recurses := true, named := ["unicode/utf8.first", "unicode/utf8.acceptRanges", "internal/bytealg.MaxLen"], apart := false, laid := [("unicode/utf8.acceptRanges", laid_unicode_utf8_acceptRanges), ("unicode/utf8.first", laid_unicode_utf8_first)] }
def FnExactLampsTextSaid : Prop := fnExactLampsTextRow.holds Tryd.pinned (OpenSpec.ofChange fnExactLampsTextSpec)

/-- ITS FALSE NEIGHBOUR: 'it returns false'. Refute it at one input. -/
def fnExactLampsTextWrong : ChangeSpec := { name := "fnExactLampsText", fn := fun _ => fun
  | [d] => { results := [.lit (.bool false)], args := [d] }
  | _ => none }
def FnExactLampsTextWrongFalsely : Prop := fnExactLampsTextRow.holds Tryd.pinned (OpenSpec.ofChange fnExactLampsTextWrong)

/-- 'laws.FnExactTicksAfter': WHATEVER THE INPUT: true; the input reads as it did. -/
def fnExactTicksAfterSpec : ChangeSpec := { name := "fnExactTicksAfter", fn := fun _ => fun
  | [d1, d2, d3] => { results := [.lit (.bool true)], args := [d1, d2, d3] }
  | _ => none }
def fnExactTicksAfterRow : OpenClaim := { program := "ytepaleeepbjkbaadoor", sum := "492623adf07958fde94b76a58b20ea7edb0787dec2c9313b794ca4fe203d903e", func := "loop.example/g01314/laws.FnExactTicksAfter", spec := "fnExactTicksAfter", inPlace := ["internal/bytealg.IndexByteString", "internal/bytealg.IndexString"], unfollowed := true, recurses := true, named := ["unicode/utf8.first", "unicode/utf8.acceptRanges", "internal/bytealg.MaxLen"], apart := false, laid := [("unicode/utf8.acceptRanges", laid_unicode_utf8_acceptRanges), ("unicode/utf8.first", laid_unicode_utf8_first)] }
def FnExactTicksAfterSaid : Prop := fnExactTicksAfterRow.holds Tryd.pinned (OpenSpec.ofChange fnExactTicksAfterSpec)

/-- ITS FALSE NEIGHBOUR: 'it returns false'. Refute it at one input. -/
def fnExactTicksAfterWrong : ChangeSpec := { name := "fnExactTicksAfter", fn := fun _ => fun
  | [d1, d2, d3] => { results := [.lit (.bool false)], args := [d1, d2, d3] }
  | _ => none }
def FnExactTicksAfterWrongFalsely : Prop := fnExactTicksAfterRow.holds Tryd.pinned (OpenSpec.ofChange fnExactTicksAfterWrong)

/-- 'laws.FnExactLeadOfLamps': WHATEVER THE INPUT: true; the input reads as it did. -/
def fnExactLeadOfLampsSpec : ChangeSpec := { name := "fnExactLeadOfLamps", fn := fun _ => fun
  | [d1, d2] => { results := [.lit (.bool true)], args := [d1, d2] }
  | _ => none }
def fnExactLeadOfLampsRow : OpenClaim := { program := "ytepaleeepbjkbaadoor", sum := "492623adf07958fde94b76a58b20ea7edb0787dec2c9313b794ca4fe203d903e", func := "loop.example/g01314/laws.FnExactLeadOfLamps", spec := "fnExactLeadOfLamps", inPlace := ["internal/bytealg.IndexByteString", "internal/bytealg.IndexString"], unfollowed := true, recurses := true, named := ["unicode/utf8.first", "unicode/utf8.acceptRanges", "internal/bytealg.MaxLen"], apart := false, laid := [("unicode/utf8.acceptRanges", laid_unicode_utf8_acceptRanges), ("unicode/utf8.first", laid_unicode_utf8_first)] }
def FnExactLeadOfLampsSaid : Prop := fnExactLeadOfLampsRow.holds Tryd.pinned (OpenSpec.ofChange fnExactLeadOfLampsSpec)

/-- ITS FALSE NEIGHBOUR: 'it returns false'. Refute it at one input. -/
def fnExactLeadOfLampsWrong : ChangeSpec := { name := "fnExactLeadOfLamps", fn := fun _ => fun
  | [d1, d2] => { results := [.lit (.bool false)], args := [d1, d2] }
  | _ => none }
def FnExactLeadOfLampsWrongFalsely : Prop := fnExactLeadOfLampsRow.holds Tryd.pinned (OpenSpec.ofChange fnExactLeadOfLampsWrong)

/-- 'laws.FnExactFirstTick': WHATEVER THE INPUT: true; the input reads as it did. -/
def fnExactFirstTickSpec : ChangeSpec := { name := "fnExactFirstTick", fn := fun _ => fun
  | [d1, d2, d3] => { results := [.lit (.bool true)], args := [d1, d2, d3] }
  | _ => none }
def fnExactFirstTickRow : OpenClaim := { program := "ytepaleeepbjkbaadoor", sum := "492623adf07958fde94b76a58b20ea7edb0787dec2c9313b794ca4fe203d903e", func := "loop.example/g01314/laws.FnExactFirstTick", spec := "fnExactFirstTick", inPlace := ["internal/bytealg.IndexByteString", "internal/bytealg.IndexString"], unfollowed := true, recurses := true, named := ["unicode/utf8.first", "unicode/utf8.acceptRanges", "internal/bytealg.MaxLen"], apart := false, laid := [("unicode/utf8.acceptRanges", laid_unicode_utf8_acceptRanges), ("unicode/utf8.first", laid_unicode_utf8_first)] }
def FnExactFirstTickSaid : Prop := fnExactFirstTickRow.holds Tryd.pinned (OpenSpec.ofChange fnExactFirstTickSpec)

/-- ITS FALSE NEIGHBOUR: 'it returns false'. Refute it at one input. -/
def fnExactFirstTickWrong : ChangeSpec := { name := "fnExactFirstTick", fn := fun _ => fun
  | [d1, d2, d3] => { results := [.lit (.bool false)], args := [d1, d2, d3] }
  | _ => none }
def FnExactFirstTickWrongFalsely : Prop := fnExactFirstTickRow.holds Tryd.pinned (OpenSpec.ofChange fnExactFirstTickWrong)

/-- 'laws.FnExactStillStates': WHATEVER THE INPUT: true; the input reads as it did. -/
def fnExactStillStatesSpec : ChangeSpec := { name := "fnExactStillStates", fn := fun _ => fun
  | [d] => { results := [.lit (.bool true)], args := [d] }
  | _ => none }
def fnExactStillStatesRow : OpenClaim := { program := "ytepaleeepbjkbaadoor", sum := "492623adf07958fde94b76a58b20ea7edb0787dec2c9313b794ca4fe203d903e", func := "loop.example/g01314/laws.FnExactStillStates", spec := "fnExactStillStates", inPlace := ["internal/bytealg.IndexByteString", "internal/bytealg.IndexString"], unfollowed := true, recurses := true, named := ["unicode/utf8.first", "unicode/utf8.acceptRanges", "internal/bytealg.MaxLen"], apart := false, laid := [("unicode/utf8.acceptRanges", laid_unicode_utf8_acceptRanges), ("unicode/utf8.first", laid_unicode_utf8_first)] }
def FnExactStillStatesSaid : Prop := fnExactStillStatesRow.holds Tryd.pinned (OpenSpec.ofChange fnExactStillStatesSpec)

/-- ITS FALSE NEIGHBOUR: 'it returns false'. Refute it at one input. -/
def fnExactStillStatesWrong : ChangeSpec := { name := "fnExactStillStates", fn := fun _ => fun
  | [d] => { results := [.lit (.bool false)], args := [d] }
  | _ => none }
def FnExactStillStatesWrongFalsely : Prop := fnExactStillStatesRow.holds Tryd.pinned (OpenSpec.ofChange fnExactStillStatesWrong)

/-- 'laws.FnExactStatesBefore': WHATEVER THE INPUT: true; the input reads as it did. -/
def fnExactStatesBeforeSpec : ChangeSpec := { name := "fnExactStatesBefore", fn := fun _ => fun
  | [d1, d2] => { results := [.lit (.bool true)], args := [d1, d2] }
  | _ => none }
def fnExactStatesBeforeRow : OpenClaim := { program := "ytepaleeepbjkbaadoor", sum := "492623adf07958fde94b76a58b20ea7edb0787dec2c9313b794ca4fe203d903e", func := "loop.example/g01314/laws.FnExactStatesBefore", spec := "fnExactStatesBefore", inPlace := ["internal/bytealg.IndexByteString", "internal/bytealg.IndexString"], unfollowed := true, recurses := true, named := ["unicode/utf8.first", "unicode/utf8.acceptRanges", "internal/bytealg.MaxLen"], apart := false, laid := [("unicode/utf8.acceptRanges", laid_unicode_utf8_acceptRanges), ("unicode/utf8.first", laid_unicode_utf8_first)] }
def FnExactStatesBeforeSaid : Prop := fnExactStatesBeforeRow.holds Tryd.pinned (OpenSpec.ofChange fnExactStatesBeforeSpec)

/-- ITS FALSE NEIGHBOUR: 'it returns false'. Refute it at one input. -/
def fnExactStatesBeforeWrong : ChangeSpec := { name := "fnExactStatesBefore", fn := fun _ => fun
  | [d1, d2] => { results := [.lit (.bool false)], args := [d1, d2] }
  | _ => none }
def FnExactStatesBeforeWrongFalsely : Prop := fnExactStatesBeforeRow.holds Tryd.pinned (OpenSpec.ofChange fnExactStatesBeforeWrong)

/-- 'laws.FnExactMakePuzzle': WHATEVER THE INPUT: true; the input reads as it did. -/
def fnExactMakePuzzleSpec : ChangeSpec := { name := "fnExactMakePuzzle", fn := fun _ => fun
  | [d1, d2, d3] => { results := [.lit (.bool true)], args := [d1, d2, d3] }
  | _ => none }
def fnExactMakePuzzleRow : OpenClaim := { program := "ytepaleeepbjkbaadoor", sum := "492623adf07958fde94b76a58b20ea7edb0787dec2c9313b794ca4fe203d903e", func := "loop.example/g01314/laws.FnExactMakePuzzle", spec := "fnExactMakePuzzle", inPlace := ["internal/bytealg.IndexByteString", "internal/bytealg.IndexString", "internal/bytealg.CountString"], unfollowed := true, recurses := true, named := ["unicode/utf8.first", "unicode/utf8.acceptRanges", "internal/bytealg.MaxLen"], apart := false, laid := [("unicode/utf8.acceptRanges", laid_unicode_utf8_acceptRanges), ("unicode/utf8.first", laid_unicode_utf8_first)] }
def FnExactMakePuzzleSaid : Prop := fnExactMakePuzzleRow.holds Tryd.pinned (OpenSpec.ofChange fnExactMakePuzzleSpec)

/-- ITS FALSE NEIGHBOUR: 'it returns false'. Refute it at one input. -/
def fnExactMakePuzzleWrong : ChangeSpec := { name := "fnExactMakePuzzle", fn := fun _ => fun
  | [d1, d2, d3] => { results := [.lit (.bool false)], args := [d1, d2, d3] }
  | _ => none }
def FnExactMakePuzzleWrongFalsely : Prop := fnExactMakePuzzleRow.holds Tryd.pinned (OpenSpec.ofChange fnExactMakePuzzleWrong)

/-- 'laws.FnExactSureSigns': WHATEVER THE INPUT: true; the input reads as it did. -/
def fnExactSureSignsSpec : ChangeSpec := { name := "fnExactSureSigns", fn := fun _ => fun
  | [d] => { results := [.lit (.bool true)], args := [d] }
  | _ => none }
def fnExactSureSignsRow : OpenClaim := { program := "ytepaleeepbjkbaadoor", sum := "492623adf07958fde94b76a58b20ea7edb0787dec2c9313b794ca4fe203d903e", func := "loop.example/g01314/laws.FnExactSureSigns", spec := "fnExactSureSigns", inPlace := ["internal/bytealg.IndexByteString", "internal/bytealg.IndexString", "internal/bytealg.CountString"], unfollowed := true, recurses := true, named := ["unicode/utf8.first", "unicode/utf8.acceptRanges", "internal/bytealg.MaxLen"], apart := false, laid := [("unicode/utf8.acceptRanges", laid_unicode_utf8_acceptRanges), ("unicode/utf8.first", laid_unicode_utf8_first)] }
def FnExactSureSignsSaid : Prop := fnExactSureSignsRow.holds Tryd.pinned (OpenSpec.ofChange fnExactSureSignsSpec)

/-- ITS FALSE NEIGHBOUR: 'it returns false'. Refute it at one input. -/
def fnExactSureSignsWrong : ChangeSpec := { name := "fnExactSureSigns", fn := fun _ => fun
  | [d] => { results := [.lit (.bool false)], args := [d] }
  | _ => none }
def FnExactSureSignsWrongFalsely : Prop := fnExactSureSignsRow.holds Tryd.pinned (OpenSpec.ofChange fnExactSureSignsWrong)

/-- 'laws.FnExactIsUndone': WHATEVER THE INPUT: true; the input reads as it did. -/
def fnExactIsUndoneSpec : ChangeSpec := { name := "fnExactIsUndone", fn := fun _ => fun
  | [d] => { results := [.lit (.bool true)], args := [d] }
  | _ => none }
def fnExactIsUndoneRow : OpenClaim := { program := "ytepaleeepbjkbaadoor", sum := "492623adf07958fde94b76a58b20ea7edb0787dec2c9313b794ca4fe203d903e", func := "loop.example/g01314/laws.FnExactIsUndone", spec := "fnExactIsUndone", inPlace := ["internal/bytealg.IndexByteString", "internal/bytealg.IndexString"], unfollowed := true, recurses := true, named := ["unicode/utf8.first", "unicode/utf8.acceptRanges", "internal/bytealg.MaxLen"], apart := false, laid := [("unicode/utf8.acceptRanges", laid_unicode_utf8_acceptRanges), ("unicode/utf8.first", laid_unicode_utf8_first)] }
def FnExactIsUndoneSaid : Prop := fnExactIsUndoneRow.holds Tryd.pinned (OpenSpec.ofChange fnExactIsUndoneSpec)

/-- ITS FALSE NEIGHBOUR: 'it returns false'. Refute it at one input. -/
def fnExactIsUndoneWrong : ChangeSpec := { name := "fnExactIsUndone", fn := fun _ => fun
  | [d] => { results := [.lit (.bool false)], args := [d] }
  | _ => none }
def FnExactIsUndoneWrongFalsely : Prop := fnExactIsUndoneRow.holds Tryd.pinned (OpenSpec.ofChange fnExactIsUndoneWrong)

/- THE SECOND FORM. 'bulk': how many values and letters a reading holds, each counted each time it is reached (what is shared counts as often as it is met; a slice's spare places count too). A statement '..UptoSaid' is the law's where the arguments, and the package variables that the reading takes, are together of bulk at most 1048576: NARROWER than '..Said'. Prove '..Said' where nothing that the law and all that it calls make is longer than what came in: it says more and counts as full. Else prove '..UptoSaid'. A law counts once. -/
mutual
def uptoBulk {H : Type} : DataW H → Nat
  | .lit (.string bytes) => bytes.length + 1
  | .lit _ => 1
  | .nil => 1
  | .ptr d => uptoBulk d + 1
  | .slice elems spare => uptoBulkAll elems + uptoBulkAll spare + 1
  | .agg parts => uptoBulkAll parts + 1
  | .iface _ d => uptoBulk d + 1
  | .map entries => uptoBulkEntries entries + 1
  | .held _ => 1
def uptoBulkAll {H : Type} : List (DataW H) → Nat
  | [] => 0
  | d :: r => uptoBulk d + uptoBulkAll r
def uptoBulkEntries {H : Type} : List (Lit × DataW H) → Nat
  | [] => 0
  | x :: r => uptoBulkEntry x + uptoBulkEntries r
def uptoBulkEntry {H : Type} : Lit × DataW H → Nat
  | (.string bytes, d) => bytes.length + uptoBulk d + 1
  | (_, d) => uptoBulk d + 1
 end
def uptoSmall : (H : Type) → List (DataW H) → Bool := fun _ ds => decide (uptoBulkAll ds ≤ 1048576)
def OpenSpec.upto (s : _root_.Go.ChangeSpec) : _root_.Go.OpenSpec := { _root_.Go.OpenSpec.ofChange s with cond := some uptoSmall }

/-- 'laws.FnExactIsDesk', WHERE WHAT IT READS IS OF BULK AT MOST 1048576: true; the input reads as it did. -/
def fnExactIsDeskUptoRow : OpenClaim := { program := "ytepaleeepbjkbaadoor", sum := "492623adf07958fde94b76a58b20ea7edb0787dec2c9313b794ca4fe203d903e", func := "loop.example/g01314/laws.FnExactIsDesk", spec := "fnExactIsDesk", inPlace := ["internal/bytealg.IndexByteString", "internal/bytealg.IndexString"], unfollowed := true, recurses := true, named := ["unicode/utf8.first", "unicode/utf8.acceptRanges", "internal/bytealg.MaxLen"], apart := false, laid := [("unicode/utf8.acceptRanges", laid_unicode_utf8_acceptRanges), ("unicode/utf8.first", laid_unicode_utf8_first)], narrowed := true }
def FnExactIsDeskUptoSaid : Prop := fnExactIsDeskUptoRow.holds Tryd.pinned (OpenSpec.upto fnExactIsDeskSpec)

/-- 'laws.FnExactLampsNeeded', WHERE WHAT IT READS IS OF BULK AT MOST 1048576: true; the input reads as it did. -/
def fnExactLampsNeededUptoRow : OpenClaim := { program := "ytepaleeepbjkbaadoor", sum := "492623adf07958fde94b76a58b20ea7edb0787dec2c9313b794ca4fe203d903e", func := "loop.example/g01314/laws.FnExactLampsNeeded", spec := "fnExactLampsNeeded", inPlace := ["internal/bytealg.IndexByteString", "internal/bytealg.IndexString"], unfollowed := true, recurses := true, named := ["unicode/utf8.first", "unicode/utf8.acceptRanges", "internal/bytealg.MaxLen"], apart := false, laid := [("unicode/utf8.acceptRanges", laid_unicode_utf8_acceptRanges), ("unicode/utf8.first", laid_unicode_utf8_first)], narrowed := true }
def FnExactLampsNeededUptoSaid : Prop := fnExactLampsNeededUptoRow.holds Tryd.pinned (OpenSpec.upto fnExactLampsNeededSpec)

/-- 'laws.FnExactOtherLamps', WHERE WHAT IT READS IS OF BULK AT MOST 1048576: true; the input reads as it did. -/
def fnExactOtherLampsUptoRow : OpenClaim := { program := "ytepaleeepbjkbaadoor", sum := "492623adf07958fde94b76a58b20ea7edb0787dec2c9313b794ca4fe203d903e", func := "loop.example/g01314/laws.FnExactOtherLamps", spec := "fnExactOtherLamps", inPlace := ["internal/bytealg.IndexByteString", "internal/bytealg.IndexString"], unfollowed := true, recurses := true, named := ["unicode/utf8.first", "unicode/utf8.acceptRanges", "internal/bytealg.MaxLen"], apart := false, laid := [("unicode/utf8.acceptRanges", laid_unicode_utf8_acceptRanges), ("unicode/utf8.first", laid_unicode_utf8_first)], narrowed := true }
def FnExactOtherLampsUptoSaid : Prop := fnExactOtherLampsUptoRow.holds Tryd.pinned (OpenSpec.upto fnExactOtherLampsSpec)

/-- 'laws.FnExactLampsText', WHERE WHAT IT READS IS OF BULK AT MOST 1048576: true; the input reads as it did. -/
def fnExactLampsTextUptoRow : OpenClaim := { program := "ytepaleeepbjkbaadoor", sum := "492623adf07958fde94b76a58b20ea7edb0787dec2c9313b794ca4fe203d903e", func := "loop.example/g01314/laws.FnExactLampsText", spec := "fnExactLampsText", inPlace := ["internal/bytealg.IndexByteString", "internal/bytealg.IndexString", "internal/abi.NoEscape", "internal/bytealg.MakeNoZero"], unfollowed := true, recurses := true, named := ["unicode/utf8.first", "unicode/utf8.acceptRanges", "internal/bytealg.MaxLen"], apart := false, laid := [("unicode/utf8.acceptRanges", laid_unicode_utf8_acceptRanges), ("unicode/utf8.first", laid_unicode_utf8_first)], narrowed := true }
def FnExactLampsTextUptoSaid : Prop := fnExactLampsTextUptoRow.holds Tryd.pinned (OpenSpec.upto fnExactLampsTextSpec)

/-- 'laws.FnExactTicksAfter', WHERE WHAT IT READS IS OF BULK AT MOST 1048576: true; the input reads as it did. -/
def fnExactTicksAfterUptoRow : OpenClaim := { program := "ytepaleeepbjkbaadoor", sum := "492623adf07958fde94b76a58b20ea7edb0787dec2c9313b794ca4fe203d903e", func := "loop.example/g01314/laws.FnExactTicksAfter", spec := "fnExactTicksAfter", inPlace := ["internal/bytealg.IndexByteString", "internal/bytealg.IndexString"], unfollowed := true, recurses := true, named := ["unicode/utf8.first", "unicode/utf8.acceptRanges", "internal/bytealg.MaxLen"], apart := false, laid := [("unicode/utf8.acceptRanges", laid_unicode_utf8_acceptRanges), ("unicode/utf8.first", laid_unicode_utf8_first)], narrowed := true }
def FnExactTicksAfterUptoSaid : Prop := fnExactTicksAfterUptoRow.holds Tryd.pinned (OpenSpec.upto fnExactTicksAfterSpec)

/-- 'laws.FnExactLeadOfLamps', WHERE WHAT IT READS IS OF BULK AT MOST 1048576: true; the input reads as it did. -/
def fnExactLeadOfLampsUptoRow : OpenClaim := { program := "ytepaleeepbjkbaadoor", sum := "492623adf07958fde94b76a58b20ea7edb0787dec2c9313b794ca4fe203d903e", func := "loop.example/g01314/laws.FnExactLeadOfLamps", spec := "fnExactLeadOfLamps", inPlace := ["internal/bytealg.IndexByteString", "internal/bytealg.IndexString"], unfollowed := true, recurses := true, named := ["unicode/utf8.first", "unicode/utf8.acceptRanges", "internal/bytealg.MaxLen"], apart := false, laid := [("unicode/utf8.acceptRanges", laid_unicode_utf8_acceptRanges), ("unicode/utf8.first", laid_unicode_utf8_first)], narrowed := true }
def FnExactLeadOfLampsUptoSaid : Prop := fnExactLeadOfLampsUptoRow.holds Tryd.pinned (OpenSpec.upto fnExactLeadOfLampsSpec)

/-- 'laws.FnExactFirstTick', WHERE WHAT IT READS IS OF BULK AT MOST 1048576: true; the input reads as it did. -/
def fnExactFirstTickUptoRow : OpenClaim := { program := "ytepaleeepbjkbaadoor", sum := "492623adf07958fde94b76a58b20ea7edb0787dec2c9313b794ca4fe203d903e", func := "loop.example/g01314/laws.FnExactFirstTick", spec := "fnExactFirstTick", inPlace := ["internal/bytealg.IndexByteString", "internal/bytealg.IndexString"], unfollowed := true, recurses := true, named := ["unicode/utf8.first", "unicode/utf8.acceptRanges", "internal/bytealg.MaxLen"], apart := false, laid := [("unicode/utf8.acceptRanges", laid_unicode_utf8_acceptRanges), ("unicode/utf8.first", laid_unicode_utf8_first)], narrowed := true }
def FnExactFirstTickUptoSaid : Prop := fnExactFirstTickUptoRow.holds Tryd.pinned (OpenSpec.upto fnExactFirstTickSpec)

/-- 'laws.FnExactStillStates', WHERE WHAT IT READS IS OF BULK AT MOST 1048576: true; the input reads as it did. -/
def fnExactStillStatesUptoRow : OpenClaim := { program := "ytepaleeepbjkbaadoor", sum := "492623adf07958fde94b76a58b20ea7edb0787dec2c9313b794ca4fe203d903e", func := "loop.example/g01314/laws.FnExactStillStates", spec := "fnExactStillStates", inPlace := ["internal/bytealg.IndexByteString", "internal/bytealg.IndexString"], unfollowed := true, recurses := true, named := ["unicode/utf8.first", "unicode/utf8.acceptRanges", "internal/bytealg.MaxLen"], apart := false, laid := [("unicode/utf8.acceptRanges", laid_unicode_utf8_acceptRanges), ("unicode/utf8.first", laid_unicode_utf8_first)], narrowed := true }
def FnExactStillStatesUptoSaid : Prop := fnExactStillStatesUptoRow.holds Tryd.pinned (OpenSpec.upto fnExactStillStatesSpec)

/-- 'laws.FnExactStatesBefore', WHERE WHAT IT READS IS OF BULK AT MOST 1048576: true; the input reads as it did. -/
def fnExactStatesBeforeUptoRow : OpenClaim := { program := "ytepaleeepbjkbaadoor", sum := "492623adf07958fde94b76a58b20ea7edb0787dec2c9313b794ca4fe203d903e", func := "loop.example/g01314/laws.FnExactStatesBefore", spec := "fnExactStatesBefore", inPlace := ["internal/bytealg.IndexByteString", "internal/bytealg.IndexString"], unfollowed := true, recurses := true, named := ["unicode/utf8.first", "unicode/utf8.acceptRanges", "internal/bytealg.MaxLen"], apart := false, laid := [("unicode/utf8.acceptRanges", laid_unicode_utf8_acceptRanges), ("unicode/utf8.first", laid_unicode_utf8_first)], narrowed := true }
def FnExactStatesBeforeUptoSaid : Prop := fnExactStatesBeforeUptoRow.holds Tryd.pinned (OpenSpec.upto fnExactStatesBeforeSpec)

/-- 'laws.FnExactMakePuzzle', WHERE WHAT IT READS IS OF BULK AT MOST 1048576: true; the input reads as it did. -/
def fnExactMakePuzzleUptoRow : OpenClaim := { program := "ytepaleeepbjkbaadoor", sum := "492623adf07958fde94b76a58b20ea7edb0787dec2c9313b794ca4fe203d903e", func := "loop.example/g01314/laws.FnExactMakePuzzle", spec := "fnExactMakePuzzle", inPlace := ["internal/bytealg.IndexByteString", "internal/bytealg.IndexString", "internal/bytealg.CountString"], unfollowed := true, recurses := true, named := ["unicode/utf8.first", "unicode/utf8.acceptRanges", "internal/bytealg.MaxLen"], apart := false, laid := [("unicode/utf8.acceptRanges", laid_unicode_utf8_acceptRanges), ("unicode/utf8.first", laid_unicode_utf8_first)], narrowed := true }
def FnExactMakePuzzleUptoSaid : Prop := fnExactMakePuzzleUptoRow.holds Tryd.pinned (OpenSpec.upto fnExactMakePuzzleSpec)

/-- 'laws.FnExactSureSigns', WHERE WHAT IT READS IS OF BULK AT MOST 1048576: true; the input reads as it did. -/
def fnExactSureSignsUptoRow : OpenClaim := { program := "ytepaleeepbjkbaadoor", sum := "492623adf07958fde94b76a58b20ea7edb0787dec2c9313b794ca4fe203d903e", func := "loop.example/g01314/laws.FnExactSureSigns", spec := "fnExactSureSigns", inPlace := ["internal/bytealg.IndexByteString", "internal/bytealg.IndexString", "internal/bytealg.CountString"], unfollowed := true, recurses := true, named := ["unicode/utf8.first", "unicode/utf8.acceptRanges", "internal/bytealg.MaxLen"], apart := false, laid := [("unicode/utf8.acceptRanges", laid_unicode_utf8_acceptRanges), ("unicode/utf8.first", laid_unicode_utf8_first)], narrowed := true }
def FnExactSureSignsUptoSaid : Prop := fnExactSureSignsUptoRow.holds Tryd.pinned (OpenSpec.upto fnExactSureSignsSpec)

/-- 'laws.FnExactIsUndone', WHERE WHAT IT READS IS OF BULK AT MOST 1048576: true; the input reads as it did. -/
def fnExactIsUndoneUptoRow : OpenClaim := { program := "ytepaleeepbjkbaadoor", sum := "492623adf07958fde94b76a58b20ea7edb0787dec2c9313b794ca4fe203d903e", func := "loop.example/g01314/laws.FnExactIsUndone", spec := "fnExactIsUndone", inPlace := ["internal/bytealg.IndexByteString", "internal/bytealg.IndexString"], unfollowed := true, recurses := true, named := ["unicode/utf8.first", "unicode/utf8.acceptRanges", "internal/bytealg.MaxLen"], apart := false, laid := [("unicode/utf8.acceptRanges", laid_unicode_utf8_acceptRanges), ("unicode/utf8.first", laid_unicode_utf8_first)], narrowed := true }
def FnExactIsUndoneUptoSaid : Prop := fnExactIsUndoneUptoRow.holds Tryd.pinned (OpenSpec.upto fnExactIsUndoneSpec)

end Rows
end Go.Proofs.YtepaleeepbjkbaaDoor
