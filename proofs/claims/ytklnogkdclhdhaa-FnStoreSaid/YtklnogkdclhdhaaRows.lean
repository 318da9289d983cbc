/-
  No cell of these rows narrows 'for every input' (looked for: loops, veiled, ifaces, maps, wideKeys, modest, calm, conditions, laid).
  DERIVED. THE GIVEN ROWS OF THIS SEAT. 9 by the template 'for every input the law returns true; each argument reads behind the call as it read before'; 0 by the template 'total and deterministic' (their statements: YtklnogkdclhdhaaTotals.lean).
  GIVEN WITH THE SEED: the statements are not yours to turn. If you find one false, say at which input.
  Laid BY PROGRAM, IN A SANDBOX (cutbox-rows.mjs): the forced cells as the released guide's own fill.sh prints them over the translation fa0e25cead41877c… (all of the seat's roots in one cut). By AI agents, Wed Nov 11 2026. No macro, syntax, notation, axiom, sorry.
-/
import Derived.Test.YtklnogkdclhdhaaChecked
import GoSem.Claim
import GoSem.ClaimJoined
import GoSem.ClaimMapViews
import Derived.JoinedTies
import Derived.KernelRfl
namespace Go.Proofs.Ytklnogkdclhdhaa
/- THE CELL 'sum', in the pinned program and in every row, IS THE sha256 OF THE DUMP (.gsa) THAT YtklnogkdclhdhaaProg.lean LOADS. Nothing in Lean hashes anything: it is a label: what it is worth is what the hold of that sum in a sandbox is worth. -/
noncomputable def Try.pinned : Pinned := { name := "ytklnogkdclhdhaa", sum := "fa0e25cead41877c094c08139a9550cdbf8fd1a647537645954f78af6cf9669e", checked := Try.checked }
namespace Rows
def none {H : Type} : Left H := { results := [], args := [] }

/-- 'laws.FnExactKeptStep': WHATEVER THE INPUT: true; the input reads as it did. -/
def fnExactKeptStepSpec : ChangeSpec := { name := "fnExactKeptStep", fn := fun _ => fun
  | [d1, d2] => { results := [.lit (.bool true)], args := [d1, d2] }
  | _ => none }
def fnExactKeptStepRow : OpenClaim := { program := "ytklnogkdclhdhaa", sum := "fa0e25cead41877c094c08139a9550cdbf8fd1a647537645954f78af6cf9669e", func := "loop.example/g00757/laws.FnExactKeptStep", spec := "fnExactKeptStep", apart := false }
def FnExactKeptStepSaid : Prop := fnExactKeptStepRow.holds Try.pinned (OpenSpec.ofChange fnExactKeptStepSpec)

/-- ITS FALSE NEIGHBOUR: 'it returns false'. Refute it at one input. -/
def fnExactKeptStepWrong : ChangeSpec := { name := "fnExactKeptStep", fn := fun _ => fun
  | [d1, d2] => { results := [.lit (.bool false)], args := [d1, d2] }
  | _ => none }
def FnExactKeptStepWrongFalsely : Prop := fnExactKeptStepRow.holds Try.pinned (OpenSpec.ofChange fnExactKeptStepWrong)

/-- 'laws.FnExactStoreOk': WHATEVER THE INPUT: true; the input reads as it did. -/
def fnExactStoreOkSpec : ChangeSpec := { name := "fnExactStoreOk", fn := fun _ => fun
  | [d] => { results := [.lit (.bool true)], args := [d] }
  | _ => none }
def fnExactStoreOkRow : OpenClaim := { program := "ytklnogkdclhdhaa", sum := "fa0e25cead41877c094c08139a9550cdbf8fd1a647537645954f78af6cf9669e", func := "loop.example/g00757/laws.FnExactStoreOk", spec := "fnExactStoreOk", apart := false }
def FnExactStoreOkSaid : Prop := fnExactStoreOkRow.holds Try.pinned (OpenSpec.ofChange fnExactStoreOkSpec)

/-- ITS FALSE NEIGHBOUR: 'it returns false'. Refute it at one input. -/
def fnExactStoreOkWrong : ChangeSpec := { name := "fnExactStoreOk", fn := fun _ => fun
  | [d] => { results := [.lit (.bool false)], args := [d] }
  | _ => none }
def FnExactStoreOkWrongFalsely : Prop := fnExactStoreOkRow.holds Try.pinned (OpenSpec.ofChange fnExactStoreOkWrong)

/-- 'laws.FnExactChanges': WHATEVER THE INPUT: true; the input reads as it did. -/
def fnExactChangesSpec : ChangeSpec := { name := "fnExactChanges", fn := fun _ => fun
  | [d1, d2] => { results := [.lit (.bool true)], args := [d1, d2] }
  | _ => none }
def fnExactChangesRow : OpenClaim := { program := "ytklnogkdclhdhaa", sum := "fa0e25cead41877c094c08139a9550cdbf8fd1a647537645954f78af6cf9669e", func := "loop.example/g00757/laws.FnExactChanges", spec := "fnExactChanges", apart := false }
def FnExactChangesSaid : Prop := fnExactChangesRow.holds Try.pinned (OpenSpec.ofChange fnExactChangesSpec)

/-- ITS FALSE NEIGHBOUR: 'it returns false'. Refute it at one input. -/
def fnExactChangesWrong : ChangeSpec := { name := "fnExactChanges", fn := fun _ => fun
  | [d1, d2] => { results := [.lit (.bool false)], args := [d1, d2] }
  | _ => none }
def FnExactChangesWrongFalsely : Prop := fnExactChangesRow.holds Try.pinned (OpenSpec.ofChange fnExactChangesWrong)

/-- 'laws.FnExactHeld': WHATEVER THE INPUT: true; the input reads as it did. -/
def fnExactHeldSpec : ChangeSpec := { name := "fnExactHeld", fn := fun _ => fun
  | [d] => { results := [.lit (.bool true)], args := [d] }
  | _ => none }
def fnExactHeldRow : OpenClaim := { program := "ytklnogkdclhdhaa", sum := "fa0e25cead41877c094c08139a9550cdbf8fd1a647537645954f78af6cf9669e", func := "loop.example/g00757/laws.FnExactHeld", spec := "fnExactHeld", apart := false }
def FnExactHeldSaid : Prop := fnExactHeldRow.holds Try.pinned (OpenSpec.ofChange fnExactHeldSpec)

/-- ITS FALSE NEIGHBOUR: 'it returns false'. Refute it at one input. -/
def fnExactHeldWrong : ChangeSpec := { name := "fnExactHeld", fn := fun _ => fun
  | [d] => { results := [.lit (.bool false)], args := [d] }
  | _ => none }
def FnExactHeldWrongFalsely : Prop := fnExactHeldRow.holds Try.pinned (OpenSpec.ofChange fnExactHeldWrong)

/-- 'laws.FnExactSync': WHATEVER THE INPUT: true; the input reads as it did. -/
def fnExactSyncSpec : ChangeSpec := { name := "fnExactSync", fn := fun _ => fun
  | [d] => { results := [.lit (.bool true)], args := [d] }
  | _ => none }
def fnExactSyncRow : OpenClaim := { program := "ytklnogkdclhdhaa", sum := "fa0e25cead41877c094c08139a9550cdbf8fd1a647537645954f78af6cf9669e", func := "loop.example/g00757/laws.FnExactSync", spec := "fnExactSync", apart := false }
def FnExactSyncSaid : Prop := fnExactSyncRow.holds Try.pinned (OpenSpec.ofChange fnExactSyncSpec)

/-- ITS FALSE NEIGHBOUR: 'it returns false'. Refute it at one input. -/
def fnExactSyncWrong : ChangeSpec := { name := "fnExactSync", fn := fun _ => fun
  | [d] => { results := [.lit (.bool false)], args := [d] }
  | _ => none }
def FnExactSyncWrongFalsely : Prop := fnExactSyncRow.holds Try.pinned (OpenSpec.ofChange fnExactSyncWrong)

/-- 'laws.FnExactLose': WHATEVER THE INPUT: true; the input reads as it did. -/
def fnExactLoseSpec : ChangeSpec := { name := "fnExactLose", fn := fun _ => fun
  | [d1, d2] => { results := [.lit (.bool true)], args := [d1, d2] }
  | _ => none }
def fnExactLoseRow : OpenClaim := { program := "ytklnogkdclhdhaa", sum := "fa0e25cead41877c094c08139a9550cdbf8fd1a647537645954f78af6cf9669e", func := "loop.example/g00757/laws.FnExactLose", spec := "fnExactLose", apart := false }
def FnExactLoseSaid : Prop := fnExactLoseRow.holds Try.pinned (OpenSpec.ofChange fnExactLoseSpec)

/-- ITS FALSE NEIGHBOUR: 'it returns false'. Refute it at one input. -/
def fnExactLoseWrong : ChangeSpec := { name := "fnExactLose", fn := fun _ => fun
  | [d1, d2] => { results := [.lit (.bool false)], args := [d1, d2] }
  | _ => none }
def FnExactLoseWrongFalsely : Prop := fnExactLoseRow.holds Try.pinned (OpenSpec.ofChange fnExactLoseWrong)

/-- 'laws.FnExactWrite': WHATEVER THE INPUT: true; the input reads as it did. -/
def fnExactWriteSpec : ChangeSpec := { name := "fnExactWrite", fn := fun _ => fun
  | [d1, d2, d3] => { results := [.lit (.bool true)], args := [d1, d2, d3] }
  | _ => none }
def fnExactWriteRow : OpenClaim := { program := "ytklnogkdclhdhaa", sum := "fa0e25cead41877c094c08139a9550cdbf8fd1a647537645954f78af6cf9669e", func := "loop.example/g00757/laws.FnExactWrite", spec := "fnExactWrite", apart := false }
def FnExactWriteSaid : Prop := fnExactWriteRow.holds Try.pinned (OpenSpec.ofChange fnExactWriteSpec)

/-- ITS FALSE NEIGHBOUR: 'it returns false'. Refute it at one input. -/
def fnExactWriteWrong : ChangeSpec := { name := "fnExactWrite", fn := fun _ => fun
  | [d1, d2, d3] => { results := [.lit (.bool false)], args := [d1, d2, d3] }
  | _ => none }
def FnExactWriteWrongFalsely : Prop := fnExactWriteRow.holds Try.pinned (OpenSpec.ofChange fnExactWriteWrong)

/-- 'laws.FnChanges': WHATEVER THE INPUT: true; the input reads as it did. -/
def fnChangesSpec : ChangeSpec := { name := "fnChanges", fn := fun _ => fun
  | [d] => { results := [.lit (.bool true)], args := [d] }
  | _ => none }
def fnChangesRow : OpenClaim := { program := "ytklnogkdclhdhaa", sum := "fa0e25cead41877c094c08139a9550cdbf8fd1a647537645954f78af6cf9669e", func := "loop.example/g00757/laws.FnChanges", spec := "fnChanges", apart := false }
def FnChangesSaid : Prop := fnChangesRow.holds Try.pinned (OpenSpec.ofChange fnChangesSpec)

/-- ITS FALSE NEIGHBOUR: 'it returns false'. Refute it at one input. -/
def fnChangesWrong : ChangeSpec := { name := "fnChanges", fn := fun _ => fun
  | [d] => { results := [.lit (.bool false)], args := [d] }
  | _ => none }
def FnChangesWrongFalsely : Prop := fnChangesRow.holds Try.pinned (OpenSpec.ofChange fnChangesWrong)

/-- 'laws.FnStore': WHATEVER THE INPUT: true; the input reads as it did. -/
def fnStoreSpec : ChangeSpec := { name := "fnStore", fn := fun _ => fun
  | [d] => { results := [.lit (.bool true)], args := [d] }
  | _ => none }
def fnStoreRow : OpenClaim := { program := "ytklnogkdclhdhaa", sum := "fa0e25cead41877c094c08139a9550cdbf8fd1a647537645954f78af6cf9669e", func := "loop.example/g00757/laws.FnStore", spec := "fnStore", apart := false }
def FnStoreSaid : Prop := fnStoreRow.holds Try.pinned (OpenSpec.ofChange fnStoreSpec)

/-- ITS FALSE NEIGHBOUR: 'it returns false'. Refute it at one input. -/
def fnStoreWrong : ChangeSpec := { name := "fnStore", fn := fun _ => fun
  | [d] => { results := [.lit (.bool false)], args := [d] }
  | _ => none }
def FnStoreWrongFalsely : Prop := fnStoreRow.holds Try.pinned (OpenSpec.ofChange fnStoreWrong)

/- THE SECOND FORM. 'bulk': how many values and letters a reading holds, each counted each time it is reached (what is shared counts as often as it is met; a slice's spare places count too). A statement '..UptoSaid' is the law's where the arguments, and the package variables that the reading takes, are together of bulk at most 1048576: NARROWER than '..Said'. Prove '..Said' where nothing that the law and all that it calls make is longer than what came in: it says more and counts as full. Else prove '..UptoSaid'. A law counts once. -/
mutual
def uptoBulk {H : Type} : DataW H → Nat
  | .lit (.string bytes) => bytes.length + 1
  | .lit _ => 1
  | .nil => 1
  | .ptr d => uptoBulk d + 1
  | .slice elems spare => uptoBulkAll elems + uptoBulkAll spare + 1
  | .agg parts => uptoBulkAll parts + 1
  | .iface _ d => uptoBulk d + 1
  | .map entries => uptoBulkEntries entries + 1
  | .held _ => 1
def uptoBulkAll {H : Type} : List (DataW H) → Nat
  | [] => 0
  | d :: r => uptoBulk d + uptoBulkAll r
def uptoBulkEntries {H : Type} : List (Lit × DataW H) → Nat
  | [] => 0
  | x :: r => uptoBulkEntry x + uptoBulkEntries r
def uptoBulkEntry {H : Type} : Lit × DataW H → Nat
  | (.string bytes, d) => bytes.length + uptoBulk d + 1
  | (_, d) => uptoBulk d + 1
 end
def uptoSmall : (H : Type) → List (DataW H) → Bool := fun _ ds => decide (uptoBulkAll ds ≤ 1048576)
def OpenSpec.upto (s : _root_.Go.ChangeSpec) : _root_.Go.OpenSpec := { _root_.Go.OpenSpec.ofChange s with cond := some uptoSmall }

/-- 'laws.FnExactKeptStep', WHERE WHAT IT READS IS OF BULK AT MOST 1048576: true; the input reads as it did. -/
def fnExactKeptStepUptoRow : OpenClaim := { program := "ytklnogkdclhdhaa", sum := "fa0e25cead41877c094c08139a9550cdbf8fd1a647537645954f78af6cf9669e", func := "loop.example/g00757/laws.FnExactKeptStep", spec := "fnExactKeptStep", apart := false, narrowed := true }
def FnExactKeptStepUptoSaid : Prop := fnExactKeptStepUptoRow.holds Try.pinned (OpenSpec.upto fnExactKeptStepSpec)

/-- 'laws.FnExactStoreOk', WHERE WHAT IT READS IS OF BULK AT MOST 1048576: true; the input reads as it did. -/
def fnExactStoreOkUptoRow : OpenClaim := { program := "ytklnogkdclhdhaa", sum := "fa0e25cead41877c094c08139a9550cdbf8fd1a647537645954f78af6cf9669e", func := "loop.example/g00757/laws.FnExactStoreOk", spec := "fnExactStoreOk", apart := false, narrowed := true }
def FnExactStoreOkUptoSaid : Prop := fnExactStoreOkUptoRow.holds Try.pinned (OpenSpec.upto fnExactStoreOkSpec)

/-- 'laws.FnExactChanges', WHERE WHAT IT READS IS OF BULK AT MOST 1048576: true; the input reads as it did. -/
def fnExactChangesUptoRow : OpenClaim := { program := "ytklnogkdclhdhaa", sum := "fa0e25cead41877c094c08139a9550cdbf8fd1a647537645954f78af6cf9669e", func := "loop.example/g00757/laws.FnExactChanges", spec := "fnExactChanges", apart := false, narrowed := true }
def FnExactChangesUptoSaid : Prop := fnExactChangesUptoRow.holds Try.pinned (OpenSpec.upto fnExactChangesSpec)

/-- 'laws.FnExactHeld', WHERE WHAT IT READS IS OF BULK AT MOST 1048576: true; the input reads as it did. -/
def fnExactHeldUptoRow : OpenClaim := { program := "ytklnogkdclhdhaa", sum := "fa0e25cead41877c094c08139a9550cdbf8fd1a647537645954f78af6cf9669e", func := "loop.example/g00757/laws.FnExactHeld", spec := "fnExactHeld", apart := false, narrowed := true }
def FnExactHeldUptoSaid : Prop := fnExactHeldUptoRow.holds Try.pinned (OpenSpec.upto fnExactHeldSpec)

/-- 'laws.FnExactSync', WHERE WHAT IT READS IS OF BULK AT MOST 1048576: true; the input reads as it did. -/
def fnExactSyncUptoRow : OpenClaim := { program := "ytklnogkdclhdhaa", sum := "fa0e25cead41877c094c08139a9550cdbf8fd1a647537645954f78af6cf9669e", func := "loop.example/g00757/laws.FnExactSync", spec := "fnExactSync", apart := false, narrowed := true }
def FnExactSyncUptoSaid : Prop := fnExactSyncUptoRow.holds Try.pinned (OpenSpec.upto fnExactSyncSpec)

/-- 'laws.FnExactLose', WHERE WHAT IT READS IS OF BULK AT MOST 1048576: true; the input reads as it did. -/
def fnExactLoseUptoRow : OpenClaim := { program := "ytklnogkdclhdhaa", sum := "fa0e25cead41877c094c08139a9550cdbf8fd1a647537645954f78af6cf9669e", func := "loop.example/g00757/laws.FnExactLose", spec := "fnExactLose", apart := false, narrowed := true }
def FnExactLoseUptoSaid : Prop := fnExactLoseUptoRow.holds Try.pinned (OpenSpec.upto fnExactLoseSpec)

/-- 'laws.FnExactWrite', WHERE WHAT IT READS IS OF BULK AT MOST 1048576: true; the input reads as it did. -/
def fnExactWriteUptoRow : OpenClaim := { program := "ytklnogkdclhdhaa", sum := "fa0e25cead41877c094c08139a9550cdbf8fd1a647537645954f78af6cf9669e", func := "loop.example/g00757/laws.FnExactWrite", spec := "fnExactWrite", apart := false, narrowed := true }
def FnExactWriteUptoSaid : Prop := fnExactWriteUptoRow.holds Try.pinned (OpenSpec.upto fnExactWriteSpec)

/-- 'laws.FnChanges', WHERE WHAT IT READS IS OF BULK AT MOST 1048576: true; the input reads as it did. -/
def fnChangesUptoRow : OpenClaim := { program := "ytklnogkdclhdhaa", sum := "fa0e25cead41877c094c08139a9550cdbf8fd1a647537645954f78af6cf9669e", func := "loop.example/g00757/laws.FnChanges", spec := "fnChanges", apart := false, narrowed := true }
def FnChangesUptoSaid : Prop := fnChangesUptoRow.holds Try.pinned (OpenSpec.upto fnChangesSpec)

/-- 'laws.FnStore', WHERE WHAT IT READS IS OF BULK AT MOST 1048576: true; the input reads as it did. -/
def fnStoreUptoRow : OpenClaim := { program := "ytklnogkdclhdhaa", sum := "fa0e25cead41877c094c08139a9550cdbf8fd1a647537645954f78af6cf9669e", func := "loop.example/g00757/laws.FnStore", spec := "fnStore", apart := false, narrowed := true }
def FnStoreUptoSaid : Prop := fnStoreUptoRow.holds Try.pinned (OpenSpec.upto fnStoreSpec)

end Rows
end Go.Proofs.Ytklnogkdclhdhaa
