/-
  No cell of these rows narrows 'for every input' (looked for: loops, veiled, ifaces, maps, wideKeys, modest, calm, conditions, laid).
  DERIVED. THE GIVEN ROWS OF THIS SEAT. 3 by the template 'for every input the law returns true; each argument reads behind the call as it read before'; 0 by the template 'total and deterministic' (their statements: YtpjdlobkeafacaaTotals.lean).
  GIVEN WITH THE SEED: the statements are not yours to turn. If you find one false, say at which input.
  Laid BY PROGRAM, IN A SANDBOX (cutbox-rows.mjs): the forced cells as the released guide's own fill.sh prints them over the translation c54b5da4f0c5c04b… (all of the seat's roots in one cut). By AI agents, Wed Nov 11 2026. No macro, syntax, notation, axiom, sorry.
-/
import Derived.Test.YtpjdlobkeafacaaChecked
import GoSem.Claim
import GoSem.ClaimJoined
import GoSem.ClaimMapViews
import Derived.JoinedTies
import Derived.KernelRfl
namespace Go.Proofs.Ytpjdlobkeafacaa
/- THE CELL 'sum', in the pinned program and in every row, IS THE sha256 OF THE DUMP (.gsa) THAT YtpjdlobkeafacaaProg.lean LOADS. Nothing in Lean hashes anything: it is a label: what it is worth is what the hold of that sum in a sandbox is worth. -/
noncomputable def Try.pinned : Pinned := { name := "ytpjdlobkeafacaa", sum := "c54b5da4f0c5c04b75c7a9b54aa9e93479e473b4f07970166f3e4f0adb0ec18e", checked := Try.checked }
namespace Rows
def none {H : Type} : Left H := { results := [], args := [] }

/-- 'laws.FnExactAddBlock': WHATEVER THE INPUT: true; the input reads as it did. -/
def fnExactAddBlockSpec : ChangeSpec := { name := "fnExactAddBlock", fn := fun _ => fun
  | [d1, d2] => { results := [.lit (.bool true)], args := [d1, d2] }
  | _ => none }
def fnExactAddBlockRow : OpenClaim := { program := "ytpjdlobkeafacaa", sum := "c54b5da4f0c5c04b75c7a9b54aa9e93479e473b4f07970166f3e4f0adb0ec18e", func := "loop.example/g01314/laws.FnExactAddBlock", spec := "fnExactAddBlock", unfollowed := true, recurses := true, apart := false }
def FnExactAddBlockSaid : Prop := fnExactAddBlockRow.holds Try.pinned (OpenSpec.ofChange fnExactAddBlockSpec)

/-- ITS FALSE NEIGHBOUR: 'it returns false'. Refute it at one input. -/
def fnExactAddBlockWrong : ChangeSpec := { name := "fnExactAddBlock", fn := fun _ => fun
  | [d1, d2] => { results := [.lit (.bool false)], args := [d1, d2] }
  | _ => none }
def FnExactAddBlockWrongFalsely : Prop := fnExactAddBlockRow.holds Try.pinned (OpenSpec.ofChange fnExactAddBlockWrong)

/-- 'laws.FnExactDropBlock': WHATEVER THE INPUT: true; the input reads as it did. -/
def fnExactDropBlockSpec : ChangeSpec := { name := "fnExactDropBlock", fn := fun _ => fun
  | [d1, d2] => { results := [.lit (.bool true)], args := [d1, d2] }
  | _ => none }
def fnExactDropBlockRow : OpenClaim := { program := "ytpjdlobkeafacaa", sum := "c54b5da4f0c5c04b75c7a9b54aa9e93479e473b4f07970166f3e4f0adb0ec18e", func := "loop.example/g01314/laws.FnExactDropBlock", spec := "fnExactDropBlock", unfollowed := true, recurses := true, apart := false }
def FnExactDropBlockSaid : Prop := fnExactDropBlockRow.holds Try.pinned (OpenSpec.ofChange fnExactDropBlockSpec)

/-- ITS FALSE NEIGHBOUR: 'it returns false'. Refute it at one input. -/
def fnExactDropBlockWrong : ChangeSpec := { name := "fnExactDropBlock", fn := fun _ => fun
  | [d1, d2] => { results := [.lit (.bool false)], args := [d1, d2] }
  | _ => none }
def FnExactDropBlockWrongFalsely : Prop := fnExactDropBlockRow.holds Try.pinned (OpenSpec.ofChange fnExactDropBlockWrong)

/-- 'laws.FnExactNeedlessBlocks': WHATEVER THE INPUT: true; the input reads as it did. -/
def fnExactNeedlessBlocksSpec : ChangeSpec := { name := "fnExactNeedlessBlocks", fn := fun _ => fun
  | [d] => { results := [.lit (.bool true)], args := [d] }
  | _ => none }
def fnExactNeedlessBlocksRow : OpenClaim := { program := "ytpjdlobkeafacaa", sum := "c54b5da4f0c5c04b75c7a9b54aa9e93479e473b4f07970166f3e4f0adb0ec18e", func := "loop.example/g01314/laws.FnExactNeedlessBlocks", spec := "fnExactNeedlessBlocks", unfollowed := true, recurses := true, apart := false }
def FnExactNeedlessBlocksSaid : Prop := fnExactNeedlessBlocksRow.holds Try.pinned (OpenSpec.ofChange fnExactNeedlessBlocksSpec)

/-- ITS FALSE NEIGHBOUR: 'it returns false'. Refute it at one input. -/
def fnExactNeedlessBlocksWrong : ChangeSpec := { name := "fnExactNeedlessBlocks", fn := fun _ => fun
  | [d] => { results := [.lit (.bool false)], args := [d] }
  | _ => none }
def FnExactNeedlessBlocksWrongFalsely : Prop := fnExactNeedlessBlocksRow.holds Try.pinned (OpenSpec.ofChange fnExactNeedlessBlocksWrong)

/- THE SECOND FORM. 'bulk': how many values and letters a reading holds, each counted each time it is reached (what is shared counts as often as it is met; a slice's spare places count too). A statement '..UptoSaid' is the law's where the arguments, and the package variables that the reading takes, are together of bulk at most 1048576: NARROWER than '..Said'. Prove '..Said' where nothing that the law and all that it calls make is longer than what came in: it says more and counts as full. Else prove '..UptoSaid'. A law counts once. -/
mutual
def uptoBulk {H : Type} : DataW H → Nat
  | .lit (.string bytes) => bytes.length + 1
  | .lit _ => 1
  | .nil => 1
  | .ptr d => uptoBulk d + 1
  | .slice elems spare => uptoBulkAll elems + uptoBulkAll spare + 1
  | .agg parts => uptoBulkAll parts + 1
  | .iface _ d => uptoBulk d + 1
  | .map entries => uptoBulkEntries entries + 1
  | .held _ => 1
def uptoBulkAll {H : Type} : List (DataW H) → Nat
  | [] => 0
  | d :: r => uptoBulk d + uptoBulkAll r
def uptoBulkEntries {H : Type} : List (Lit × DataW H) → Nat
  | [] => 0
  | x :: r => uptoBulkEntry x + uptoBulkEntries r
def uptoBulkEntry {H : Type} : Lit × DataW H → Nat
  | (.string bytes, d) => bytes.length + uptoBulk d + 1
  | (_, d) => uptoBulk d + 1
 end
def uptoSmall : (H : Type) → List (DataW H) → Bool := fun _ ds => decide (uptoBulkAll ds ≤ 1048576)
def OpenSpec.upto (s : _root_.Go.ChangeSpec) : _root_.Go.OpenSpec := { _root_.Go.OpenSpec.ofChange s with cond := some uptoSmall }

/-- 'laws.FnExactAddBlock', WHERE WHAT IT READS IS OF BULK AT MOST 1048576: true; the input reads as it did. -/
def fnExactAddBlockUptoRow : OpenClaim := { program := "ytpjdlobkeafacaa", sum := "c54b5da4f0c5c04b75c7a9b54aa9e93479e473b4f07970166f3e4f0adb0ec18e", func := "loop.example/g01314/laws.FnExactAddBlock", spec := "fnExactAddBlock", unfollowed := true, recurses := true, apart := false, narrowed := true }
def FnExactAddBlockUptoSaid : Prop := fnExactAddBlockUptoRow.holds Try.pinned (OpenSpec.upto fnExactAddBlockSpec)

/-- 'laws.FnExactDropBlock', WHERE WHAT IT READS IS OF BULK AT MOST 1048576: true; the input reads as it did. -/
def fnExactDropBlockUptoRow : OpenClaim := { program := "ytpjdlobkeafacaa", sum := "c54b5da4f0c5c04b75c7a9b54aa9e93479e473b4f07970166f3e4f0adb0ec18e", func := "loop.example/g01314/laws.FnExactDropBlock", spec := "fnExactDropBlock", unfollowed := true, recurses := true, apart := false, narrowed := true }
def FnExactDropBlockUptoSaid : Prop := fnExactDropBlockUptoRow.holds Try.pinned (OpenSpec.upto fnExactDropBlockSpec)

/-- 'laws.FnExactNeedlessBlocks', WHERE WHAT IT READS IS OF BULK AT MOST 1048576: true; the input reads as it did. -/
def fnExactNeedlessBlocksUptoRow : OpenClaim := { program := "ytpjdlobkeafacaa", sum := "c54b5da4f0c5c04b75c7a9b54aa9e93479e473b4f07970166f3e4f0adb0ec18e", func := "loop.example/g01314/laws.FnExactNeedlessBlocks", spec := "fnExactNeedlessBlocks", unfollowed := true, recurses := true, apart := false, narrowed := true }
def FnExactNeedlessBlocksUptoSaid : Prop := fnExactNeedlessBlocksUptoRow.holds Try.pinned (OpenSpec.upto fnExactNeedlessBlocksSpec)

end Rows
end Go.Proofs.Ytpjdlobkeafacaa
