/-
  No cell of these rows narrows 'for every input' (looked for: loops, veiled, ifaces, maps, wideKeys, modest, calm, conditions, laid).
  DERIVED. THE GIVEN ROWS OF THIS SEAT. 9 by the template 'for every input the law returns true; each argument reads behind the call as it read before'; 0 by the template 'total and deterministic' (their statements: YthnpflcemooaeaaTotals.lean).
  GIVEN WITH THE SEED: the statements are not yours to turn. If you find one false, say at which input.
  Laid BY PROGRAM, IN A SANDBOX (cutbox-rows.mjs): the forced cells as the released guide's own fill.sh prints them over the translation 62638d3c0bb74815… (all of the seat's roots in one cut). By AI agents, Wed Nov 11 2026. No macro, syntax, notation, axiom, sorry.
-/
import Derived.Test.YthnpflcemooaeaaChecked
import GoSem.Claim
import GoSem.ClaimJoined
import GoSem.ClaimMapViews
import Derived.JoinedTies
import Derived.KernelRfl
namespace Go.Proofs.Ythnpflcemooaeaa
/- THE CELL 'sum', in the pinned program and in every row, IS THE sha256 OF THE DUMP (.gsa) THAT YthnpflcemooaeaaProg.lean LOADS. Nothing in Lean hashes anything: it is a label: what it is worth is what the hold of that sum in a sandbox is worth. -/
noncomputable def Try.pinned : Pinned := { name := "ythnpflcemooaeaa", sum := "62638d3c0bb748157e1d0e39cd7e78785d510f3d30575206c24e4ee02546ad89", checked := Try.checked }
namespace Rows
def none {H : Type} : Left H := { results := [], args := [] }

/-- 'laws.FnExactNewTenant': WHATEVER THE INPUT: true; the input reads as it did. -/
def fnExactNewTenantSpec : ChangeSpec := { name := "fnExactNewTenant", fn := fun _ => fun
  | [] => { results := [.lit (.bool true)], args := [] }
  | _ => none }
def fnExactNewTenantRow : OpenClaim := { program := "ythnpflcemooaeaa", sum := "62638d3c0bb748157e1d0e39cd7e78785d510f3d30575206c24e4ee02546ad89", func := "loop.example/g00757/laws.FnExactNewTenant", spec := "fnExactNewTenant", apart := false }
def FnExactNewTenantSaid : Prop := fnExactNewTenantRow.holds Try.pinned (OpenSpec.ofChange fnExactNewTenantSpec)

/-- ITS FALSE NEIGHBOUR: 'it returns false'. Refute it at one input. -/
def fnExactNewTenantWrong : ChangeSpec := { name := "fnExactNewTenant", fn := fun _ => fun
  | [] => { results := [.lit (.bool false)], args := [] }
  | _ => none }
def FnExactNewTenantWrongFalsely : Prop := fnExactNewTenantRow.holds Try.pinned (OpenSpec.ofChange fnExactNewTenantWrong)

/-- 'laws.FnExactNewState': WHATEVER THE INPUT: true; the input reads as it did. -/
def fnExactNewStateSpec : ChangeSpec := { name := "fnExactNewState", fn := fun _ => fun
  | [] => { results := [.lit (.bool true)], args := [] }
  | _ => none }
def fnExactNewStateRow : OpenClaim := { program := "ythnpflcemooaeaa", sum := "62638d3c0bb748157e1d0e39cd7e78785d510f3d30575206c24e4ee02546ad89", func := "loop.example/g00757/laws.FnExactNewState", spec := "fnExactNewState", apart := false }
def FnExactNewStateSaid : Prop := fnExactNewStateRow.holds Try.pinned (OpenSpec.ofChange fnExactNewStateSpec)

/-- ITS FALSE NEIGHBOUR: 'it returns false'. Refute it at one input. -/
def fnExactNewStateWrong : ChangeSpec := { name := "fnExactNewState", fn := fun _ => fun
  | [] => { results := [.lit (.bool false)], args := [] }
  | _ => none }
def FnExactNewStateWrongFalsely : Prop := fnExactNewStateRow.holds Try.pinned (OpenSpec.ofChange fnExactNewStateWrong)

/-- 'laws.FnExactTenantOk': WHATEVER THE INPUT: true; the input reads as it did. -/
def fnExactTenantOkSpec : ChangeSpec := { name := "fnExactTenantOk", fn := fun _ => fun
  | [d] => { results := [.lit (.bool true)], args := [d] }
  | _ => none }
def fnExactTenantOkRow : OpenClaim := { program := "ythnpflcemooaeaa", sum := "62638d3c0bb748157e1d0e39cd7e78785d510f3d30575206c24e4ee02546ad89", func := "loop.example/g00757/laws.FnExactTenantOk", spec := "fnExactTenantOk", unfollowed := true, recurses := true, apart := false }
def FnExactTenantOkSaid : Prop := fnExactTenantOkRow.holds Try.pinned (OpenSpec.ofChange fnExactTenantOkSpec)

/-- ITS FALSE NEIGHBOUR: 'it returns false'. Refute it at one input. -/
def fnExactTenantOkWrong : ChangeSpec := { name := "fnExactTenantOk", fn := fun _ => fun
  | [d] => { results := [.lit (.bool false)], args := [d] }
  | _ => none }
def FnExactTenantOkWrongFalsely : Prop := fnExactTenantOkRow.holds Try.pinned (OpenSpec.ofChange fnExactTenantOkWrong)

/-- 'laws.FnExactStateOk': WHATEVER THE INPUT: true; the input reads as it did. -/
def fnExactStateOkSpec : ChangeSpec := { name := "fnExactStateOk", fn := fun _ => fun
  | [d] => { results := [.lit (.bool true)], args := [d] }
  | _ => none }
def fnExactStateOkRow : OpenClaim := { program := "ythnpflcemooaeaa", sum := "62638d3c0bb748157e1d0e39cd7e78785d510f3d30575206c24e4ee02546ad89", func := "loop.example/g00757/laws.FnExactStateOk", spec := "fnExactStateOk", unfollowed := true, recurses := true, apart := false }
def FnExactStateOkSaid : Prop := fnExactStateOkRow.holds Try.pinned (OpenSpec.ofChange fnExactStateOkSpec)

/-- ITS FALSE NEIGHBOUR: 'it returns false'. Refute it at one input. -/
def fnExactStateOkWrong : ChangeSpec := { name := "fnExactStateOk", fn := fun _ => fun
  | [d] => { results := [.lit (.bool false)], args := [d] }
  | _ => none }
def FnExactStateOkWrongFalsely : Prop := fnExactStateOkRow.holds Try.pinned (OpenSpec.ofChange fnExactStateOkWrong)

/-- 'laws.FnExactShowTenant': WHATEVER THE INPUT: true; the input reads as it did. -/
def fnExactShowTenantSpec : ChangeSpec := { name := "fnExactShowTenant", fn := fun _ => fun
  | [d] => { results := [.lit (.bool true)], args := [d] }
  | _ => none }
def fnExactShowTenantRow : OpenClaim := { program := "ythnpflcemooaeaa", sum := "62638d3c0bb748157e1d0e39cd7e78785d510f3d30575206c24e4ee02546ad89", func := "loop.example/g00757/laws.FnExactShowTenant", spec := "fnExactShowTenant", unfollowed := true, recurses := true, apart := false }
def FnExactShowTenantSaid : Prop := fnExactShowTenantRow.holds Try.pinned (OpenSpec.ofChange fnExactShowTenantSpec)

/-- ITS FALSE NEIGHBOUR: 'it returns false'. Refute it at one input. -/
def fnExactShowTenantWrong : ChangeSpec := { name := "fnExactShowTenant", fn := fun _ => fun
  | [d] => { results := [.lit (.bool false)], args := [d] }
  | _ => none }
def FnExactShowTenantWrongFalsely : Prop := fnExactShowTenantRow.holds Try.pinned (OpenSpec.ofChange fnExactShowTenantWrong)

/-- 'laws.FnExactShowState': WHATEVER THE INPUT: true; the input reads as it did. -/
def fnExactShowStateSpec : ChangeSpec := { name := "fnExactShowState", fn := fun _ => fun
  | [d] => { results := [.lit (.bool true)], args := [d] }
  | _ => none }
def fnExactShowStateRow : OpenClaim := { program := "ythnpflcemooaeaa", sum := "62638d3c0bb748157e1d0e39cd7e78785d510f3d30575206c24e4ee02546ad89", func := "loop.example/g00757/laws.FnExactShowState", spec := "fnExactShowState", unfollowed := true, recurses := true, apart := false }
def FnExactShowStateSaid : Prop := fnExactShowStateRow.holds Try.pinned (OpenSpec.ofChange fnExactShowStateSpec)

/-- ITS FALSE NEIGHBOUR: 'it returns false'. Refute it at one input. -/
def fnExactShowStateWrong : ChangeSpec := { name := "fnExactShowState", fn := fun _ => fun
  | [d] => { results := [.lit (.bool false)], args := [d] }
  | _ => none }
def FnExactShowStateWrongFalsely : Prop := fnExactShowStateRow.holds Try.pinned (OpenSpec.ofChange fnExactShowStateWrong)

/-- 'laws.FnExactTenantTick': WHATEVER THE INPUT: true; the input reads as it did. -/
def fnExactTenantTickSpec : ChangeSpec := { name := "fnExactTenantTick", fn := fun _ => fun
  | [d] => { results := [.lit (.bool true)], args := [d] }
  | _ => none }
def fnExactTenantTickRow : OpenClaim := { program := "ythnpflcemooaeaa", sum := "62638d3c0bb748157e1d0e39cd7e78785d510f3d30575206c24e4ee02546ad89", func := "loop.example/g00757/laws.FnExactTenantTick", spec := "fnExactTenantTick", unfollowed := true, recurses := true, apart := false }
def FnExactTenantTickSaid : Prop := fnExactTenantTickRow.holds Try.pinned (OpenSpec.ofChange fnExactTenantTickSpec)

/-- ITS FALSE NEIGHBOUR: 'it returns false'. Refute it at one input. -/
def fnExactTenantTickWrong : ChangeSpec := { name := "fnExactTenantTick", fn := fun _ => fun
  | [d] => { results := [.lit (.bool false)], args := [d] }
  | _ => none }
def FnExactTenantTickWrongFalsely : Prop := fnExactTenantTickRow.holds Try.pinned (OpenSpec.ofChange fnExactTenantTickWrong)

/-- 'laws.FnExactReadTenant': WHATEVER THE INPUT: true; the input reads as it did. -/
def fnExactReadTenantSpec : ChangeSpec := { name := "fnExactReadTenant", fn := fun _ => fun
  | [d] => { results := [.lit (.bool true)], args := [d] }
  | _ => none }
def fnExactReadTenantRow : OpenClaim := { program := "ythnpflcemooaeaa", sum := "62638d3c0bb748157e1d0e39cd7e78785d510f3d30575206c24e4ee02546ad89", func := "loop.example/g00757/laws.FnExactReadTenant", spec := "fnExactReadTenant", unfollowed := true, recurses := true, apart := false }
def FnExactReadTenantSaid : Prop := fnExactReadTenantRow.holds Try.pinned (OpenSpec.ofChange fnExactReadTenantSpec)

/-- ITS FALSE NEIGHBOUR: 'it returns false'. Refute it at one input. -/
def fnExactReadTenantWrong : ChangeSpec := { name := "fnExactReadTenant", fn := fun _ => fun
  | [d] => { results := [.lit (.bool false)], args := [d] }
  | _ => none }
def FnExactReadTenantWrongFalsely : Prop := fnExactReadTenantRow.holds Try.pinned (OpenSpec.ofChange fnExactReadTenantWrong)

/-- 'laws.FnExactReadState': WHATEVER THE INPUT: true; the input reads as it did. -/
def fnExactReadStateSpec : ChangeSpec := { name := "fnExactReadState", fn := fun _ => fun
  | [d] => { results := [.lit (.bool true)], args := [d] }
  | _ => none }
def fnExactReadStateRow : OpenClaim := { program := "ythnpflcemooaeaa", sum := "62638d3c0bb748157e1d0e39cd7e78785d510f3d30575206c24e4ee02546ad89", func := "loop.example/g00757/laws.FnExactReadState", spec := "fnExactReadState", unfollowed := true, recurses := true, apart := false }
def FnExactReadStateSaid : Prop := fnExactReadStateRow.holds Try.pinned (OpenSpec.ofChange fnExactReadStateSpec)

/-- ITS FALSE NEIGHBOUR: 'it returns false'. Refute it at one input. -/
def fnExactReadStateWrong : ChangeSpec := { name := "fnExactReadState", fn := fun _ => fun
  | [d] => { results := [.lit (.bool false)], args := [d] }
  | _ => none }
def FnExactReadStateWrongFalsely : Prop := fnExactReadStateRow.holds Try.pinned (OpenSpec.ofChange fnExactReadStateWrong)

/- THE SECOND FORM. 'bulk': how many values and letters a reading holds, each counted each time it is reached (what is shared counts as often as it is met; a slice's spare places count too). A statement '..UptoSaid' is the law's where the arguments, and the package variables that the reading takes, are together of bulk at most 1048576: NARROWER than '..Said'. Prove '..Said' where nothing that the law and all that it calls make is longer than what came in: it says more and counts as full. Else prove '..UptoSaid'. A law counts once. -/
mutual
def uptoBulk {H : Type} : DataW H → Nat
  | .lit (.string bytes) => bytes.length + 1
  | .lit _ => 1
  | .nil => 1
  | .ptr d => uptoBulk d + 1
  | .slice elems spare => uptoBulkAll elems + uptoBulkAll spare + 1
  | .agg parts => uptoBulkAll parts + 1
  | .iface _ d => uptoBulk d + 1
  | .map entries => uptoBulkEntries entries + 1
  | .held _ => 1
def uptoBulkAll {H : Type} : List (DataW H) → Nat
  | [] => 0
  | d :: r => uptoBulk d + uptoBulkAll r
def uptoBulkEntries {H : Type} : List (Lit × DataW H) → Nat
  | [] => 0
  | x :: r => uptoBulkEntry x + uptoBulkEntries r
def uptoBulkEntry {H : Type} : Lit × DataW H → Nat
  | (.string bytes, d) => bytes.length + uptoBulk d + 1
  | (_, d) => uptoBulk d + 1
 end
def uptoSmall : (H : Type) → List (DataW H) → Bool := fun _ ds => decide (uptoBulkAll ds ≤ 1048576)
def OpenSpec.upto (s : _root_.Go.ChangeSpec) : _root_.Go.OpenSpec := { _root_.Go.OpenSpec.ofChange s with cond := some uptoSmall }

/-- 'laws.FnExactNewTenant', WHERE WHAT IT READS IS OF BULK AT MOST 1048576: true; the input reads as it did. -/
def fnExactNewTenantUptoRow : OpenClaim := { program := "ythnpflcemooaeaa", sum := "62638d3c0bb748157e1d0e39cd7e78785d510f3d30575206c24e4ee02546ad89", func := "loop.example/g00757/laws.FnExactNewTenant", spec := "fnExactNewTenant", apart := false, narrowed := true }
def FnExactNewTenantUptoSaid : Prop := fnExactNewTenantUptoRow.holds Try.pinned (OpenSpec.upto fnExactNewTenantSpec)

/-- 'laws.FnExactNewState', WHERE WHAT IT READS IS OF BULK AT MOST 1048576: true; the input reads as it did. -/
def fnExactNewStateUptoRow : OpenClaim := { program := "ythnpflcemooaeaa", sum := "62638d3c0bb748157e1d0e39cd7e78785d510f3d30575206c24e4ee02546ad89", func := "loop.example/g00757/laws.FnExactNewState", spec := "fnExactNewState", apart := false, narrowed := true }
def FnExactNewStateUptoSaid : Prop := fnExactNewStateUptoRow.holds Try.pinned (OpenSpec.upto fnExactNewStateSpec)

/-- 'laws.FnExactTenantOk', WHERE WHAT IT READS IS OF BULK AT MOST 1048576: true; the input reads as it did. -/
def fnExactTenantOkUptoRow : OpenClaim := { program := "ythnpflcemooaeaa", sum := "62638d3c0bb748157e1d0e39cd7e78785d510f3d30575206c24e4ee02546ad89", func := "loop.example/g00757/laws.FnExactTenantOk", spec := "fnExactTenantOk", unfollowed := true, recurses := true, apart := false, narrowed := true }
def FnExactTenantOkUptoSaid : Prop := fnExactTenantOkUptoRow.holds Try.pinned (OpenSpec.upto fnExactTenantOkSpec)

/-- 'laws.FnExactStateOk', WHERE WHAT IT READS IS OF BULK AT MOST 1048576: true; the input reads as it did. -/
def fnExactStateOkUptoRow : OpenClaim := { program := "ythnpflcemooaeaa", sum := "62638d3c0bb748157e1d0e39cd7e78785d510f3d30575206c24e4ee02546ad89", func := "loop.example/g00757/laws.FnExactStateOk", spec := "fnExactStateOk", unfollowed := true, recurses := true, apart := false, narrowed := true }
def FnExactStateOkUptoSaid : Prop := fnExactStateOkUptoRow.holds Try.pinned (OpenSpec.upto fnExactStateOkSpec)

/-- 'laws.FnExactShowTenant', WHERE WHAT IT READS IS OF BULK AT MOST 1048576: true; the input reads as it did. -/
def fnExactShowTenantUptoRow : OpenClaim := { program := "ythnpflcemooaeaa", sum := "62638d3c0bb748157e1d0e39cd7e78785d510f3d30575206c24e4ee02546ad89", func := "loop.example/g00757/laws.FnExactShowTenant", spec := "fnExactShowTenant", unfollowed := true, recurses := true, apart := false, narrowed := true }
def FnExactShowTenantUptoSaid : Prop := fnExactShowTenantUptoRow.holds Try.pinned (OpenSpec.upto fnExactShowTenantSpec)

/-- 'laws.FnExactShowState', WHERE WHAT IT READS IS OF BULK AT MOST 1048576: true; the input reads as it did. -/
def fnExactShowStateUptoRow : OpenClaim := { program := "ythnpflcemooaeaa", sum := "62638d3c0bb748157e1d0e39cd7e78785d510f3d30575206c24e4ee02546ad89", func := "loop.example/g00757/laws.FnExactShowState", spec := "fnExactShowState", unfollowed := true, recurses := true, apart := false, narrowed := true }
def FnExactShowStateUptoSaid : Prop := fnExactShowStateUptoRow.holds Try.pinned (OpenSpec.upto fnExactShowStateSpec)

/-- 'laws.FnExactTenantTick', WHERE WHAT IT READS IS OF BULK AT MOST 1048576: true; the input reads as it did. -/
def fnExactTenantTickUptoRow : OpenClaim := { program := "ythnpflcemooaeaa", sum := "62638d3c0bb748157e1d0e39cd7e78785d510f3d30575206c24e4ee02546ad89", func := "loop.example/g00757/laws.FnExactTenantTick", spec := "fnExactTenantTick", unfollowed := true, recurses := true, apart := false, narrowed := true }
def FnExactTenantTickUptoSaid : Prop := fnExactTenantTickUptoRow.holds Try.pinned (OpenSpec.upto fnExactTenantTickSpec)

/-- 'laws.FnExactReadTenant', WHERE WHAT IT READS IS OF BULK AT MOST 1048576: true; the input reads as it did. -/
def fnExactReadTenantUptoRow : OpenClaim := { program := "ythnpflcemooaeaa", sum := "62638d3c0bb748157e1d0e39cd7e78785d510f3d30575206c24e4ee02546ad89", func := "loop.example/g00757/laws.FnExactReadTenant", spec := "fnExactReadTenant", unfollowed := true, recurses := true, apart := false, narrowed := true }
def FnExactReadTenantUptoSaid : Prop := fnExactReadTenantUptoRow.holds Try.pinned (OpenSpec.upto fnExactReadTenantSpec)

/-- 'laws.FnExactReadState', WHERE WHAT IT READS IS OF BULK AT MOST 1048576: true; the input reads as it did. -/
def fnExactReadStateUptoRow : OpenClaim := { program := "ythnpflcemooaeaa", sum := "62638d3c0bb748157e1d0e39cd7e78785d510f3d30575206c24e4ee02546ad89", func := "loop.example/g00757/laws.FnExactReadState", spec := "fnExactReadState", unfollowed := true, recurses := true, apart := false, narrowed := true }
def FnExactReadStateUptoSaid : Prop := fnExactReadStateUptoRow.holds Try.pinned (OpenSpec.upto fnExactReadStateSpec)

end Rows
end Go.Proofs.Ythnpflcemooaeaa
