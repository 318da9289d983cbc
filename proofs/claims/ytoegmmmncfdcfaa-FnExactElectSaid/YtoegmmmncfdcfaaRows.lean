/-
  No cell of these rows narrows 'for every input' (looked for: loops, veiled, ifaces, maps, wideKeys, modest, calm, conditions, laid).
  DERIVED. THE GIVEN ROWS OF THIS SEAT. 7 by the template 'for every input the law returns true; each argument reads behind the call as it read before'; 0 by the template 'total and deterministic' (their statements: YtoegmmmncfdcfaaTotals.lean).
  GIVEN WITH THE SEED: the statements are not yours to turn. If you find one false, say at which input.
  Laid BY PROGRAM, IN A SANDBOX (cutbox-rows.mjs): the forced cells as the released guide's own fill.sh prints them over the translation 1474c1ea04d91387… (all of the seat's roots in one cut). By AI agents, Wed Nov 11 2026. No macro, syntax, notation, axiom, sorry.
-/
import Derived.Test.YtoegmmmncfdcfaaChecked
import GoSem.Claim
import GoSem.ClaimJoined
import GoSem.ClaimMapViews
import Derived.JoinedTies
import Derived.KernelRfl
namespace Go.Proofs.Ytoegmmmncfdcfaa
/- THE CELL 'sum', in the pinned program and in every row, IS THE sha256 OF THE DUMP (.gsa) THAT YtoegmmmncfdcfaaProg.lean LOADS. Nothing in Lean hashes anything: it is a label: what it is worth is what the hold of that sum in a sandbox is worth. -/
noncomputable def Try.pinned : Pinned := { name := "ytoegmmmncfdcfaa", sum := "1474c1ea04d913879b63f30c6e0bdc9795a505d3c4ba2c2c0fc3ef8e60d29425", checked := Try.checked }
namespace Rows
def none {H : Type} : Left H := { results := [], args := [] }

/-- 'laws.FnExactCoreOk': WHATEVER THE INPUT: true; the input reads as it did. -/
def fnExactCoreOkSpec : ChangeSpec := { name := "fnExactCoreOk", fn := fun _ => fun
  | [d] => { results := [.lit (.bool true)], args := [d] }
  | _ => none }
def fnExactCoreOkRow : OpenClaim := { program := "ytoegmmmncfdcfaa", sum := "1474c1ea04d913879b63f30c6e0bdc9795a505d3c4ba2c2c0fc3ef8e60d29425", func := "loop.example/g00757/laws.FnExactCoreOk", spec := "fnExactCoreOk", apart := false }
def FnExactCoreOkSaid : Prop := fnExactCoreOkRow.holds Try.pinned (OpenSpec.ofChange fnExactCoreOkSpec)

/-- ITS FALSE NEIGHBOUR: 'it returns false'. Refute it at one input. -/
def fnExactCoreOkWrong : ChangeSpec := { name := "fnExactCoreOk", fn := fun _ => fun
  | [d] => { results := [.lit (.bool false)], args := [d] }
  | _ => none }
def FnExactCoreOkWrongFalsely : Prop := fnExactCoreOkRow.holds Try.pinned (OpenSpec.ofChange fnExactCoreOkWrong)

/-- 'laws.FnExactCoreKept': WHATEVER THE INPUT: true; the input reads as it did. -/
def fnExactCoreKeptSpec : ChangeSpec := { name := "fnExactCoreKept", fn := fun _ => fun
  | [d1, d2] => { results := [.lit (.bool true)], args := [d1, d2] }
  | _ => none }
def fnExactCoreKeptRow : OpenClaim := { program := "ytoegmmmncfdcfaa", sum := "1474c1ea04d913879b63f30c6e0bdc9795a505d3c4ba2c2c0fc3ef8e60d29425", func := "loop.example/g00757/laws.FnExactCoreKept", spec := "fnExactCoreKept", apart := false }
def FnExactCoreKeptSaid : Prop := fnExactCoreKeptRow.holds Try.pinned (OpenSpec.ofChange fnExactCoreKeptSpec)

/-- ITS FALSE NEIGHBOUR: 'it returns false'. Refute it at one input. -/
def fnExactCoreKeptWrong : ChangeSpec := { name := "fnExactCoreKept", fn := fun _ => fun
  | [d1, d2] => { results := [.lit (.bool false)], args := [d1, d2] }
  | _ => none }
def FnExactCoreKeptWrongFalsely : Prop := fnExactCoreKeptRow.holds Try.pinned (OpenSpec.ofChange fnExactCoreKeptWrong)

/-- 'laws.FnExactCoreOf': WHATEVER THE INPUT: true; the input reads as it did. -/
def fnExactCoreOfSpec : ChangeSpec := { name := "fnExactCoreOf", fn := fun _ => fun
  | [d1, d2, d3] => { results := [.lit (.bool true)], args := [d1, d2, d3] }
  | _ => none }
def fnExactCoreOfRow : OpenClaim := { program := "ytoegmmmncfdcfaa", sum := "1474c1ea04d913879b63f30c6e0bdc9795a505d3c4ba2c2c0fc3ef8e60d29425", func := "loop.example/g00757/laws.FnExactCoreOf", spec := "fnExactCoreOf", apart := false }
def FnExactCoreOfSaid : Prop := fnExactCoreOfRow.holds Try.pinned (OpenSpec.ofChange fnExactCoreOfSpec)

/-- ITS FALSE NEIGHBOUR: 'it returns false'. Refute it at one input. -/
def fnExactCoreOfWrong : ChangeSpec := { name := "fnExactCoreOf", fn := fun _ => fun
  | [d1, d2, d3] => { results := [.lit (.bool false)], args := [d1, d2, d3] }
  | _ => none }
def FnExactCoreOfWrongFalsely : Prop := fnExactCoreOfRow.holds Try.pinned (OpenSpec.ofChange fnExactCoreOfWrong)

/-- 'laws.FnExactCompact': WHATEVER THE INPUT: true; the input reads as it did. -/
def fnExactCompactSpec : ChangeSpec := { name := "fnExactCompact", fn := fun _ => fun
  | [d1, d2] => { results := [.lit (.bool true)], args := [d1, d2] }
  | _ => none }
def fnExactCompactRow : OpenClaim := { program := "ytoegmmmncfdcfaa", sum := "1474c1ea04d913879b63f30c6e0bdc9795a505d3c4ba2c2c0fc3ef8e60d29425", func := "loop.example/g00757/laws.FnExactCompact", spec := "fnExactCompact", apart := false }
def FnExactCompactSaid : Prop := fnExactCompactRow.holds Try.pinned (OpenSpec.ofChange fnExactCompactSpec)

/-- ITS FALSE NEIGHBOUR: 'it returns false'. Refute it at one input. -/
def fnExactCompactWrong : ChangeSpec := { name := "fnExactCompact", fn := fun _ => fun
  | [d1, d2] => { results := [.lit (.bool false)], args := [d1, d2] }
  | _ => none }
def FnExactCompactWrongFalsely : Prop := fnExactCompactRow.holds Try.pinned (OpenSpec.ofChange fnExactCompactWrong)

/-- 'laws.FnExactBeat': WHATEVER THE INPUT: true; the input reads as it did. -/
def fnExactBeatSpec : ChangeSpec := { name := "fnExactBeat", fn := fun _ => fun
  | [d] => { results := [.lit (.bool true)], args := [d] }
  | _ => none }
def fnExactBeatRow : OpenClaim := { program := "ytoegmmmncfdcfaa", sum := "1474c1ea04d913879b63f30c6e0bdc9795a505d3c4ba2c2c0fc3ef8e60d29425", func := "loop.example/g00757/laws.FnExactBeat", spec := "fnExactBeat", apart := false }
def FnExactBeatSaid : Prop := fnExactBeatRow.holds Try.pinned (OpenSpec.ofChange fnExactBeatSpec)

/-- ITS FALSE NEIGHBOUR: 'it returns false'. Refute it at one input. -/
def fnExactBeatWrong : ChangeSpec := { name := "fnExactBeat", fn := fun _ => fun
  | [d] => { results := [.lit (.bool false)], args := [d] }
  | _ => none }
def FnExactBeatWrongFalsely : Prop := fnExactBeatRow.holds Try.pinned (OpenSpec.ofChange fnExactBeatWrong)

/-- 'laws.FnExactPropose': WHATEVER THE INPUT: true; the input reads as it did. -/
def fnExactProposeSpec : ChangeSpec := { name := "fnExactPropose", fn := fun _ => fun
  | [d1, d2] => { results := [.lit (.bool true)], args := [d1, d2] }
  | _ => none }
def fnExactProposeRow : OpenClaim := { program := "ytoegmmmncfdcfaa", sum := "1474c1ea04d913879b63f30c6e0bdc9795a505d3c4ba2c2c0fc3ef8e60d29425", func := "loop.example/g00757/laws.FnExactPropose", spec := "fnExactPropose", apart := false }
def FnExactProposeSaid : Prop := fnExactProposeRow.holds Try.pinned (OpenSpec.ofChange fnExactProposeSpec)

/-- ITS FALSE NEIGHBOUR: 'it returns false'. Refute it at one input. -/
def fnExactProposeWrong : ChangeSpec := { name := "fnExactPropose", fn := fun _ => fun
  | [d1, d2] => { results := [.lit (.bool false)], args := [d1, d2] }
  | _ => none }
def FnExactProposeWrongFalsely : Prop := fnExactProposeRow.holds Try.pinned (OpenSpec.ofChange fnExactProposeWrong)

/-- 'laws.FnExactElect': WHATEVER THE INPUT: true; the input reads as it did. -/
def fnExactElectSpec : ChangeSpec := { name := "fnExactElect", fn := fun _ => fun
  | [d] => { results := [.lit (.bool true)], args := [d] }
  | _ => none }
def fnExactElectRow : OpenClaim := { program := "ytoegmmmncfdcfaa", sum := "1474c1ea04d913879b63f30c6e0bdc9795a505d3c4ba2c2c0fc3ef8e60d29425", func := "loop.example/g00757/laws.FnExactElect", spec := "fnExactElect", apart := false }
def FnExactElectSaid : Prop := fnExactElectRow.holds Try.pinned (OpenSpec.ofChange fnExactElectSpec)

/-- ITS FALSE NEIGHBOUR: 'it returns false'. Refute it at one input. -/
def fnExactElectWrong : ChangeSpec := { name := "fnExactElect", fn := fun _ => fun
  | [d] => { results := [.lit (.bool false)], args := [d] }
  | _ => none }
def FnExactElectWrongFalsely : Prop := fnExactElectRow.holds Try.pinned (OpenSpec.ofChange fnExactElectWrong)

/- THE SECOND FORM. 'bulk': how many values and letters a reading holds, each counted each time it is reached (what is shared counts as often as it is met; a slice's spare places count too). A statement '..UptoSaid' is the law's where the arguments, and the package variables that the reading takes, are together of bulk at most 1048576: NARROWER than '..Said'. Prove '..Said' where nothing that the law and all that it calls make is longer than what came in: it says more and counts as full. Else prove '..UptoSaid'. A law counts once. -/
mutual
def uptoBulk {H : Type} : DataW H → Nat
  | .lit (.string bytes) => bytes.length + 1
  | .lit _ => 1
  | .nil => 1
  | .ptr d => uptoBulk d + 1
  | .slice elems spare => uptoBulkAll elems + uptoBulkAll spare + 1
  | .agg parts => uptoBulkAll parts + 1
  | .iface _ d => uptoBulk d + 1
  | .map entries => uptoBulkEntries entries + 1
  | .held _ => 1
def uptoBulkAll {H : Type} : List (DataW H) → Nat
  | [] => 0
  | d :: r => uptoBulk d + uptoBulkAll r
def uptoBulkEntries {H : Type} : List (Lit × DataW H) → Nat
  | [] => 0
  | x :: r => uptoBulkEntry x + uptoBulkEntries r
def uptoBulkEntry {H : Type} : Lit × DataW H → Nat
  | (.string bytes, d) => bytes.length + uptoBulk d + 1
  | (_, d) => uptoBulk d + 1
 end
def uptoSmall : (H : Type) → List (DataW H) → Bool := fun _ ds => decide (uptoBulkAll ds ≤ 1048576)
def OpenSpec.upto (s : _root_.Go.ChangeSpec) : _root_.Go.OpenSpec := { _root_.Go.OpenSpec.ofChange s with cond := some uptoSmall }

/-- 'laws.FnExactCoreOk', WHERE WHAT IT READS IS OF BULK AT MOST 1048576: true; the input reads as it did. -/
def fnExactCoreOkUptoRow : OpenClaim := { program := "ytoegmmmncfdcfaa", sum := "1474c1ea04d913879b63f30c6e0bdc9795a505d3c4ba2c2c0fc3ef8e60d29425", func := "loop.example/g00757/laws.FnExactCoreOk", spec := "fnExactCoreOk", apart := false, narrowed := true }
def FnExactCoreOkUptoSaid : Prop := fnExactCoreOkUptoRow.holds Try.pinned (OpenSpec.upto fnExactCoreOkSpec)

/-- 'laws.FnExactCoreKept', WHERE WHAT IT READS IS OF BULK AT MOST 1048576: true; the input reads as it did. -/
def fnExactCoreKeptUptoRow : OpenClaim := { program := "ytoegmmmncfdcfaa", sum := "1474c1ea04d913879b63f30c6e0bdc9795a505d3c4ba2c2c0fc3ef8e60d29425", func := "loop.example/g00757/laws.FnExactCoreKept", spec := "fnExactCoreKept", apart := false, narrowed := true }
def FnExactCoreKeptUptoSaid : Prop := fnExactCoreKeptUptoRow.holds Try.pinned (OpenSpec.upto fnExactCoreKeptSpec)

/-- 'laws.FnExactCoreOf', WHERE WHAT IT READS IS OF BULK AT MOST 1048576: true; the input reads as it did. -/
def fnExactCoreOfUptoRow : OpenClaim := { program := "ytoegmmmncfdcfaa", sum := "1474c1ea04d913879b63f30c6e0bdc9795a505d3c4ba2c2c0fc3ef8e60d29425", func := "loop.example/g00757/laws.FnExactCoreOf", spec := "fnExactCoreOf", apart := false, narrowed := true }
def FnExactCoreOfUptoSaid : Prop := fnExactCoreOfUptoRow.holds Try.pinned (OpenSpec.upto fnExactCoreOfSpec)

/-- 'laws.FnExactCompact', WHERE WHAT IT READS IS OF BULK AT MOST 1048576: true; the input reads as it did. -/
def fnExactCompactUptoRow : OpenClaim := { program := "ytoegmmmncfdcfaa", sum := "1474c1ea04d913879b63f30c6e0bdc9795a505d3c4ba2c2c0fc3ef8e60d29425", func := "loop.example/g00757/laws.FnExactCompact", spec := "fnExactCompact", apart := false, narrowed := true }
def FnExactCompactUptoSaid : Prop := fnExactCompactUptoRow.holds Try.pinned (OpenSpec.upto fnExactCompactSpec)

/-- 'laws.FnExactBeat', WHERE WHAT IT READS IS OF BULK AT MOST 1048576: true; the input reads as it did. -/
def fnExactBeatUptoRow : OpenClaim := { program := "ytoegmmmncfdcfaa", sum := "1474c1ea04d913879b63f30c6e0bdc9795a505d3c4ba2c2c0fc3ef8e60d29425", func := "loop.example/g00757/laws.FnExactBeat", spec := "fnExactBeat", apart := false, narrowed := true }
def FnExactBeatUptoSaid : Prop := fnExactBeatUptoRow.holds Try.pinned (OpenSpec.upto fnExactBeatSpec)

/-- 'laws.FnExactPropose', WHERE WHAT IT READS IS OF BULK AT MOST 1048576: true; the input reads as it did. -/
def fnExactProposeUptoRow : OpenClaim := { program := "ytoegmmmncfdcfaa", sum := "1474c1ea04d913879b63f30c6e0bdc9795a505d3c4ba2c2c0fc3ef8e60d29425", func := "loop.example/g00757/laws.FnExactPropose", spec := "fnExactPropose", apart := false, narrowed := true }
def FnExactProposeUptoSaid : Prop := fnExactProposeUptoRow.holds Try.pinned (OpenSpec.upto fnExactProposeSpec)

/-- 'laws.FnExactElect', WHERE WHAT IT READS IS OF BULK AT MOST 1048576: true; the input reads as it did. -/
def fnExactElectUptoRow : OpenClaim := { program := "ytoegmmmncfdcfaa", sum := "1474c1ea04d913879b63f30c6e0bdc9795a505d3c4ba2c2c0fc3ef8e60d29425", func := "loop.example/g00757/laws.FnExactElect", spec := "fnExactElect", apart := false, narrowed := true }
def FnExactElectUptoSaid : Prop := fnExactElectUptoRow.holds Try.pinned (OpenSpec.upto fnExactElectSpec)

end Rows
end Go.Proofs.Ytoegmmmncfdcfaa
