/-
  No cell of these rows narrows 'for every input' (looked for: loops, veiled, ifaces, maps, wideKeys, modest, calm, conditions, laid).
  DERIVED. THE GIVEN ROWS OF THIS SEAT. 12 by the template 'for every input the law returns true; each argument reads behind the call as it read before'; 0 by the template 'total and deterministic' (their statements: YtkokejemgekfaaaTotals.lean).
  GIVEN WITH THE SEED: the statements are not yours to turn. If you find one false, say at which input.
  Laid BY PROGRAM, IN A SANDBOX (cutbox-rows.mjs): the forced cells as the released guide's own fill.sh prints them over the translation fa7f1dd06bb666ae… (all of the seat's roots in one cut). By AI agents, Wed Nov 11 2026. No macro, syntax, notation, axiom, sorry.
-/
import Derived.Test.YtkokejemgekfaaaChecked
import GoSem.Claim
import GoSem.ClaimJoined
import GoSem.ClaimMapViews
import Derived.JoinedTies
import Derived.KernelRfl
namespace Go.Proofs.Ytkokejemgekfaaa
/- THE CELL 'sum', in the pinned program and in every row, IS THE sha256 OF THE DUMP (.gsa) THAT YtkokejemgekfaaaProg.lean LOADS. Nothing in Lean hashes anything: it is a label: what it is worth is what the hold of that sum in a sandbox is worth. -/
noncomputable def Try.pinned : Pinned := { name := "ytkokejemgekfaaa", sum := "fa7f1dd06bb666ae61666b65f9c7d0aca6803690155d092758caed716868394c", checked := Try.checked }
namespace Rows
def none {H : Type} : Left H := { results := [], args := [] }

/-- 'laws.FnExactSlotOk': WHATEVER THE INPUT: true; the input reads as it did. -/
def fnExactSlotOkSpec : ChangeSpec := { name := "fnExactSlotOk", fn := fun _ => fun
  | [d] => { results := [.lit (.bool true)], args := [d] }
  | _ => none }
def fnExactSlotOkRow : OpenClaim := { program := "ytkokejemgekfaaa", sum := "fa7f1dd06bb666ae61666b65f9c7d0aca6803690155d092758caed716868394c", func := "loop.example/g00757/laws.FnExactSlotOk", spec := "fnExactSlotOk", apart := false }
def FnExactSlotOkSaid : Prop := fnExactSlotOkRow.holds Try.pinned (OpenSpec.ofChange fnExactSlotOkSpec)

/-- ITS FALSE NEIGHBOUR: 'it returns false'. Refute it at one input. -/
def fnExactSlotOkWrong : ChangeSpec := { name := "fnExactSlotOk", fn := fun _ => fun
  | [d] => { results := [.lit (.bool false)], args := [d] }
  | _ => none }
def FnExactSlotOkWrongFalsely : Prop := fnExactSlotOkRow.holds Try.pinned (OpenSpec.ofChange fnExactSlotOkWrong)

/-- 'laws.FnExactClientOk': WHATEVER THE INPUT: true; the input reads as it did. -/
def fnExactClientOkSpec : ChangeSpec := { name := "fnExactClientOk", fn := fun _ => fun
  | [d] => { results := [.lit (.bool true)], args := [d] }
  | _ => none }
def fnExactClientOkRow : OpenClaim := { program := "ytkokejemgekfaaa", sum := "fa7f1dd06bb666ae61666b65f9c7d0aca6803690155d092758caed716868394c", func := "loop.example/g00757/laws.FnExactClientOk", spec := "fnExactClientOk", apart := false }
def FnExactClientOkSaid : Prop := fnExactClientOkRow.holds Try.pinned (OpenSpec.ofChange fnExactClientOkSpec)

/-- ITS FALSE NEIGHBOUR: 'it returns false'. Refute it at one input. -/
def fnExactClientOkWrong : ChangeSpec := { name := "fnExactClientOk", fn := fun _ => fun
  | [d] => { results := [.lit (.bool false)], args := [d] }
  | _ => none }
def FnExactClientOkWrongFalsely : Prop := fnExactClientOkRow.holds Try.pinned (OpenSpec.ofChange fnExactClientOkWrong)

/-- 'laws.FnExactClientCall': WHATEVER THE INPUT: true; the input reads as it did. -/
def fnExactClientCallSpec : ChangeSpec := { name := "fnExactClientCall", fn := fun _ => fun
  | [d1, d2, d3] => { results := [.lit (.bool true)], args := [d1, d2, d3] }
  | _ => none }
def fnExactClientCallRow : OpenClaim := { program := "ytkokejemgekfaaa", sum := "fa7f1dd06bb666ae61666b65f9c7d0aca6803690155d092758caed716868394c", func := "loop.example/g00757/laws.FnExactClientCall", spec := "fnExactClientCall", apart := false }
def FnExactClientCallSaid : Prop := fnExactClientCallRow.holds Try.pinned (OpenSpec.ofChange fnExactClientCallSpec)

/-- ITS FALSE NEIGHBOUR: 'it returns false'. Refute it at one input. -/
def fnExactClientCallWrong : ChangeSpec := { name := "fnExactClientCall", fn := fun _ => fun
  | [d1, d2, d3] => { results := [.lit (.bool false)], args := [d1, d2, d3] }
  | _ => none }
def FnExactClientCallWrongFalsely : Prop := fnExactClientCallRow.holds Try.pinned (OpenSpec.ofChange fnExactClientCallWrong)

/-- 'laws.FnExactFrameOk': WHATEVER THE INPUT: true; the input reads as it did. -/
def fnExactFrameOkSpec : ChangeSpec := { name := "fnExactFrameOk", fn := fun _ => fun
  | [d] => { results := [.lit (.bool true)], args := [d] }
  | _ => none }
def fnExactFrameOkRow : OpenClaim := { program := "ytkokejemgekfaaa", sum := "fa7f1dd06bb666ae61666b65f9c7d0aca6803690155d092758caed716868394c", func := "loop.example/g00757/laws.FnExactFrameOk", spec := "fnExactFrameOk", apart := false }
def FnExactFrameOkSaid : Prop := fnExactFrameOkRow.holds Try.pinned (OpenSpec.ofChange fnExactFrameOkSpec)

/-- ITS FALSE NEIGHBOUR: 'it returns false'. Refute it at one input. -/
def fnExactFrameOkWrong : ChangeSpec := { name := "fnExactFrameOk", fn := fun _ => fun
  | [d] => { results := [.lit (.bool false)], args := [d] }
  | _ => none }
def FnExactFrameOkWrongFalsely : Prop := fnExactFrameOkRow.holds Try.pinned (OpenSpec.ofChange fnExactFrameOkWrong)

/-- 'laws.FnExactClientSay': WHATEVER THE INPUT: true; the input reads as it did. -/
def fnExactClientSaySpec : ChangeSpec := { name := "fnExactClientSay", fn := fun _ => fun
  | [d1, d2] => { results := [.lit (.bool true)], args := [d1, d2] }
  | _ => none }
def fnExactClientSayRow : OpenClaim := { program := "ytkokejemgekfaaa", sum := "fa7f1dd06bb666ae61666b65f9c7d0aca6803690155d092758caed716868394c", func := "loop.example/g00757/laws.FnExactClientSay", spec := "fnExactClientSay", apart := false }
def FnExactClientSaySaid : Prop := fnExactClientSayRow.holds Try.pinned (OpenSpec.ofChange fnExactClientSaySpec)

/-- ITS FALSE NEIGHBOUR: 'it returns false'. Refute it at one input. -/
def fnExactClientSayWrong : ChangeSpec := { name := "fnExactClientSay", fn := fun _ => fun
  | [d1, d2] => { results := [.lit (.bool false)], args := [d1, d2] }
  | _ => none }
def FnExactClientSayWrongFalsely : Prop := fnExactClientSayRow.holds Try.pinned (OpenSpec.ofChange fnExactClientSayWrong)

/-- 'laws.FnExactMsgOk': WHATEVER THE INPUT: true; the input reads as it did. -/
def fnExactMsgOkSpec : ChangeSpec := { name := "fnExactMsgOk", fn := fun _ => fun
  | [d] => { results := [.lit (.bool true)], args := [d] }
  | _ => none }
def fnExactMsgOkRow : OpenClaim := { program := "ytkokejemgekfaaa", sum := "fa7f1dd06bb666ae61666b65f9c7d0aca6803690155d092758caed716868394c", func := "loop.example/g00757/laws.FnExactMsgOk", spec := "fnExactMsgOk", apart := false }
def FnExactMsgOkSaid : Prop := fnExactMsgOkRow.holds Try.pinned (OpenSpec.ofChange fnExactMsgOkSpec)

/-- ITS FALSE NEIGHBOUR: 'it returns false'. Refute it at one input. -/
def fnExactMsgOkWrong : ChangeSpec := { name := "fnExactMsgOk", fn := fun _ => fun
  | [d] => { results := [.lit (.bool false)], args := [d] }
  | _ => none }
def FnExactMsgOkWrongFalsely : Prop := fnExactMsgOkRow.holds Try.pinned (OpenSpec.ofChange fnExactMsgOkWrong)

/-- 'laws.FnExactShowFrame': WHATEVER THE INPUT: true; the input reads as it did. -/
def fnExactShowFrameSpec : ChangeSpec := { name := "fnExactShowFrame", fn := fun _ => fun
  | [d] => { results := [.lit (.bool true)], args := [d] }
  | _ => none }
def fnExactShowFrameRow : OpenClaim := { program := "ytkokejemgekfaaa", sum := "fa7f1dd06bb666ae61666b65f9c7d0aca6803690155d092758caed716868394c", func := "loop.example/g00757/laws.FnExactShowFrame", spec := "fnExactShowFrame", apart := false }
def FnExactShowFrameSaid : Prop := fnExactShowFrameRow.holds Try.pinned (OpenSpec.ofChange fnExactShowFrameSpec)

/-- ITS FALSE NEIGHBOUR: 'it returns false'. Refute it at one input. -/
def fnExactShowFrameWrong : ChangeSpec := { name := "fnExactShowFrame", fn := fun _ => fun
  | [d] => { results := [.lit (.bool false)], args := [d] }
  | _ => none }
def FnExactShowFrameWrongFalsely : Prop := fnExactShowFrameRow.holds Try.pinned (OpenSpec.ofChange fnExactShowFrameWrong)

/-- 'laws.FnExactClientHear': WHATEVER THE INPUT: true; the input reads as it did. -/
def fnExactClientHearSpec : ChangeSpec := { name := "fnExactClientHear", fn := fun _ => fun
  | [d1, d2, d3] => { results := [.lit (.bool true)], args := [d1, d2, d3] }
  | _ => none }
def fnExactClientHearRow : OpenClaim := { program := "ytkokejemgekfaaa", sum := "fa7f1dd06bb666ae61666b65f9c7d0aca6803690155d092758caed716868394c", func := "loop.example/g00757/laws.FnExactClientHear", spec := "fnExactClientHear", apart := false }
def FnExactClientHearSaid : Prop := fnExactClientHearRow.holds Try.pinned (OpenSpec.ofChange fnExactClientHearSpec)

/-- ITS FALSE NEIGHBOUR: 'it returns false'. Refute it at one input. -/
def fnExactClientHearWrong : ChangeSpec := { name := "fnExactClientHear", fn := fun _ => fun
  | [d1, d2, d3] => { results := [.lit (.bool false)], args := [d1, d2, d3] }
  | _ => none }
def FnExactClientHearWrongFalsely : Prop := fnExactClientHearRow.holds Try.pinned (OpenSpec.ofChange fnExactClientHearWrong)

/-- 'laws.FnExactShowMsg': WHATEVER THE INPUT: true; the input reads as it did. -/
def fnExactShowMsgSpec : ChangeSpec := { name := "fnExactShowMsg", fn := fun _ => fun
  | [d] => { results := [.lit (.bool true)], args := [d] }
  | _ => none }
def fnExactShowMsgRow : OpenClaim := { program := "ytkokejemgekfaaa", sum := "fa7f1dd06bb666ae61666b65f9c7d0aca6803690155d092758caed716868394c", func := "loop.example/g00757/laws.FnExactShowMsg", spec := "fnExactShowMsg", apart := false }
def FnExactShowMsgSaid : Prop := fnExactShowMsgRow.holds Try.pinned (OpenSpec.ofChange fnExactShowMsgSpec)

/-- ITS FALSE NEIGHBOUR: 'it returns false'. Refute it at one input. -/
def fnExactShowMsgWrong : ChangeSpec := { name := "fnExactShowMsg", fn := fun _ => fun
  | [d] => { results := [.lit (.bool false)], args := [d] }
  | _ => none }
def FnExactShowMsgWrongFalsely : Prop := fnExactShowMsgRow.holds Try.pinned (OpenSpec.ofChange fnExactShowMsgWrong)

/-- 'laws.FnExactReadFrame': WHATEVER THE INPUT: true; the input reads as it did. -/
def fnExactReadFrameSpec : ChangeSpec := { name := "fnExactReadFrame", fn := fun _ => fun
  | [d] => { results := [.lit (.bool true)], args := [d] }
  | _ => none }
def fnExactReadFrameRow : OpenClaim := { program := "ytkokejemgekfaaa", sum := "fa7f1dd06bb666ae61666b65f9c7d0aca6803690155d092758caed716868394c", func := "loop.example/g00757/laws.FnExactReadFrame", spec := "fnExactReadFrame", apart := false }
def FnExactReadFrameSaid : Prop := fnExactReadFrameRow.holds Try.pinned (OpenSpec.ofChange fnExactReadFrameSpec)

/-- ITS FALSE NEIGHBOUR: 'it returns false'. Refute it at one input. -/
def fnExactReadFrameWrong : ChangeSpec := { name := "fnExactReadFrame", fn := fun _ => fun
  | [d] => { results := [.lit (.bool false)], args := [d] }
  | _ => none }
def FnExactReadFrameWrongFalsely : Prop := fnExactReadFrameRow.holds Try.pinned (OpenSpec.ofChange fnExactReadFrameWrong)

/-- 'laws.FnExactReadMsg': WHATEVER THE INPUT: true; the input reads as it did. -/
def fnExactReadMsgSpec : ChangeSpec := { name := "fnExactReadMsg", fn := fun _ => fun
  | [d] => { results := [.lit (.bool true)], args := [d] }
  | _ => none }
def fnExactReadMsgRow : OpenClaim := { program := "ytkokejemgekfaaa", sum := "fa7f1dd06bb666ae61666b65f9c7d0aca6803690155d092758caed716868394c", func := "loop.example/g00757/laws.FnExactReadMsg", spec := "fnExactReadMsg", apart := false }
def FnExactReadMsgSaid : Prop := fnExactReadMsgRow.holds Try.pinned (OpenSpec.ofChange fnExactReadMsgSpec)

/-- ITS FALSE NEIGHBOUR: 'it returns false'. Refute it at one input. -/
def fnExactReadMsgWrong : ChangeSpec := { name := "fnExactReadMsg", fn := fun _ => fun
  | [d] => { results := [.lit (.bool false)], args := [d] }
  | _ => none }
def FnExactReadMsgWrongFalsely : Prop := fnExactReadMsgRow.holds Try.pinned (OpenSpec.ofChange fnExactReadMsgWrong)

/-- 'laws.FnClient': WHATEVER THE INPUT: true; the input reads as it did. -/
def fnClientSpec : ChangeSpec := { name := "fnClient", fn := fun _ => fun
  | [d] => { results := [.lit (.bool true)], args := [d] }
  | _ => none }
def fnClientRow : OpenClaim := { program := "ytkokejemgekfaaa", sum := "fa7f1dd06bb666ae61666b65f9c7d0aca6803690155d092758caed716868394c", func := "loop.example/g00757/laws.FnClient", spec := "fnClient", apart := false }
def FnClientSaid : Prop := fnClientRow.holds Try.pinned (OpenSpec.ofChange fnClientSpec)

/-- ITS FALSE NEIGHBOUR: 'it returns false'. Refute it at one input. -/
def fnClientWrong : ChangeSpec := { name := "fnClient", fn := fun _ => fun
  | [d] => { results := [.lit (.bool false)], args := [d] }
  | _ => none }
def FnClientWrongFalsely : Prop := fnClientRow.holds Try.pinned (OpenSpec.ofChange fnClientWrong)

/- THE SECOND FORM. 'bulk': how many values and letters a reading holds, each counted each time it is reached (what is shared counts as often as it is met; a slice's spare places count too). A statement '..UptoSaid' is the law's where the arguments, and the package variables that the reading takes, are together of bulk at most 1048576: NARROWER than '..Said'. Prove '..Said' where nothing that the law and all that it calls make is longer than what came in: it says more and counts as full. Else prove '..UptoSaid'. A law counts once. -/
mutual
def uptoBulk {H : Type} : DataW H → Nat
  | .lit (.string bytes) => bytes.length + 1
  | .lit _ => 1
  | .nil => 1
  | .ptr d => uptoBulk d + 1
  | .slice elems spare => uptoBulkAll elems + uptoBulkAll spare + 1
  | .agg parts => uptoBulkAll parts + 1
  | .iface _ d => uptoBulk d + 1
  | .map entries => uptoBulkEntries entries + 1
  | .held _ => 1
def uptoBulkAll {H : Type} : List (DataW H) → Nat
  | [] => 0
  | d :: r => uptoBulk d + uptoBulkAll r
def uptoBulkEntries {H : Type} : List (Lit × DataW H) → Nat
  | [] => 0
  | x :: r => uptoBulkEntry x + uptoBulkEntries r
def uptoBulkEntry {H : Type} : Lit × DataW H → Nat
  | (.string bytes, d) => bytes.length + uptoBulk d + 1
  | (_, d) => uptoBulk d + 1
 end
def uptoSmall : (H : Type) → List (DataW H) → Bool := fun _ ds => decide (uptoBulkAll ds ≤ 1048576)
def OpenSpec.upto (s : _root_.Go.ChangeSpec) : _root_.Go.OpenSpec := { _root_.Go.OpenSpec.ofChange s with cond := some uptoSmall }

/-- 'laws.FnExactSlotOk', WHERE WHAT IT READS IS OF BULK AT MOST 1048576: true; the input reads as it did. -/
def fnExactSlotOkUptoRow : OpenClaim := { program := "ytkokejemgekfaaa", sum := "fa7f1dd06bb666ae61666b65f9c7d0aca6803690155d092758caed716868394c", func := "loop.example/g00757/laws.FnExactSlotOk", spec := "fnExactSlotOk", apart := false, narrowed := true }
def FnExactSlotOkUptoSaid : Prop := fnExactSlotOkUptoRow.holds Try.pinned (OpenSpec.upto fnExactSlotOkSpec)

/-- 'laws.FnExactClientOk', WHERE WHAT IT READS IS OF BULK AT MOST 1048576: true; the input reads as it did. -/
def fnExactClientOkUptoRow : OpenClaim := { program := "ytkokejemgekfaaa", sum := "fa7f1dd06bb666ae61666b65f9c7d0aca6803690155d092758caed716868394c", func := "loop.example/g00757/laws.FnExactClientOk", spec := "fnExactClientOk", apart := false, narrowed := true }
def FnExactClientOkUptoSaid : Prop := fnExactClientOkUptoRow.holds Try.pinned (OpenSpec.upto fnExactClientOkSpec)

/-- 'laws.FnExactClientCall', WHERE WHAT IT READS IS OF BULK AT MOST 1048576: true; the input reads as it did. -/
def fnExactClientCallUptoRow : OpenClaim := { program := "ytkokejemgekfaaa", sum := "fa7f1dd06bb666ae61666b65f9c7d0aca6803690155d092758caed716868394c", func := "loop.example/g00757/laws.FnExactClientCall", spec := "fnExactClientCall", apart := false, narrowed := true }
def FnExactClientCallUptoSaid : Prop := fnExactClientCallUptoRow.holds Try.pinned (OpenSpec.upto fnExactClientCallSpec)

/-- 'laws.FnExactFrameOk', WHERE WHAT IT READS IS OF BULK AT MOST 1048576: true; the input reads as it did. -/
def fnExactFrameOkUptoRow : OpenClaim := { program := "ytkokejemgekfaaa", sum := "fa7f1dd06bb666ae61666b65f9c7d0aca6803690155d092758caed716868394c", func := "loop.example/g00757/laws.FnExactFrameOk", spec := "fnExactFrameOk", apart := false, narrowed := true }
def FnExactFrameOkUptoSaid : Prop := fnExactFrameOkUptoRow.holds Try.pinned (OpenSpec.upto fnExactFrameOkSpec)

/-- 'laws.FnExactClientSay', WHERE WHAT IT READS IS OF BULK AT MOST 1048576: true; the input reads as it did. -/
def fnExactClientSayUptoRow : OpenClaim := { program := "ytkokejemgekfaaa", sum := "fa7f1dd06bb666ae61666b65f9c7d0aca6803690155d092758caed716868394c", func := "loop.example/g00757/laws.FnExactClientSay", spec := "fnExactClientSay", apart := false, narrowed := true }
def FnExactClientSayUptoSaid : Prop := fnExactClientSayUptoRow.holds Try.pinned (OpenSpec.upto fnExactClientSaySpec)

/-- 'laws.FnExactMsgOk', WHERE WHAT IT READS IS OF BULK AT MOST 1048576: true; the input reads as it did. -/
def fnExactMsgOkUptoRow : OpenClaim := { program := "ytkokejemgekfaaa", sum := "fa7f1dd06bb666ae61666b65f9c7d0aca6803690155d092758caed716868394c", func := "loop.example/g00757/laws.FnExactMsgOk", spec := "fnExactMsgOk", apart := false, narrowed := true }
def FnExactMsgOkUptoSaid : Prop := fnExactMsgOkUptoRow.holds Try.pinned (OpenSpec.upto fnExactMsgOkSpec)

/-- 'laws.FnExactShowFrame', WHERE WHAT IT READS IS OF BULK AT MOST 1048576: true; the input reads as it did. -/
def fnExactShowFrameUptoRow : OpenClaim := { program := "ytkokejemgekfaaa", sum := "fa7f1dd06bb666ae61666b65f9c7d0aca6803690155d092758caed716868394c", func := "loop.example/g00757/laws.FnExactShowFrame", spec := "fnExactShowFrame", apart := false, narrowed := true }
def FnExactShowFrameUptoSaid : Prop := fnExactShowFrameUptoRow.holds Try.pinned (OpenSpec.upto fnExactShowFrameSpec)

/-- 'laws.FnExactClientHear', WHERE WHAT IT READS IS OF BULK AT MOST 1048576: true; the input reads as it did. -/
def fnExactClientHearUptoRow : OpenClaim := { program := "ytkokejemgekfaaa", sum := "fa7f1dd06bb666ae61666b65f9c7d0aca6803690155d092758caed716868394c", func := "loop.example/g00757/laws.FnExactClientHear", spec := "fnExactClientHear", apart := false, narrowed := true }
def FnExactClientHearUptoSaid : Prop := fnExactClientHearUptoRow.holds Try.pinned (OpenSpec.upto fnExactClientHearSpec)

/-- 'laws.FnExactShowMsg', WHERE WHAT IT READS IS OF BULK AT MOST 1048576: true; the input reads as it did. -/
def fnExactShowMsgUptoRow : OpenClaim := { program := "ytkokejemgekfaaa", sum := "fa7f1dd06bb666ae61666b65f9c7d0aca6803690155d092758caed716868394c", func := "loop.example/g00757/laws.FnExactShowMsg", spec := "fnExactShowMsg", apart := false, narrowed := true }
def FnExactShowMsgUptoSaid : Prop := fnExactShowMsgUptoRow.holds Try.pinned (OpenSpec.upto fnExactShowMsgSpec)

/-- 'laws.FnExactReadFrame', WHERE WHAT IT READS IS OF BULK AT MOST 1048576: true; the input reads as it did. -/
def fnExactReadFrameUptoRow : OpenClaim := { program := "ytkokejemgekfaaa", sum := "fa7f1dd06bb666ae61666b65f9c7d0aca6803690155d092758caed716868394c", func := "loop.example/g00757/laws.FnExactReadFrame", spec := "fnExactReadFrame", apart := false, narrowed := true }
def FnExactReadFrameUptoSaid : Prop := fnExactReadFrameUptoRow.holds Try.pinned (OpenSpec.upto fnExactReadFrameSpec)

/-- 'laws.FnExactReadMsg', WHERE WHAT IT READS IS OF BULK AT MOST 1048576: true; the input reads as it did. -/
def fnExactReadMsgUptoRow : OpenClaim := { program := "ytkokejemgekfaaa", sum := "fa7f1dd06bb666ae61666b65f9c7d0aca6803690155d092758caed716868394c", func := "loop.example/g00757/laws.FnExactReadMsg", spec := "fnExactReadMsg", apart := false, narrowed := true }
def FnExactReadMsgUptoSaid : Prop := fnExactReadMsgUptoRow.holds Try.pinned (OpenSpec.upto fnExactReadMsgSpec)

/-- 'laws.FnClient', WHERE WHAT IT READS IS OF BULK AT MOST 1048576: true; the input reads as it did. -/
def fnClientUptoRow : OpenClaim := { program := "ytkokejemgekfaaa", sum := "fa7f1dd06bb666ae61666b65f9c7d0aca6803690155d092758caed716868394c", func := "loop.example/g00757/laws.FnClient", spec := "fnClient", apart := false, narrowed := true }
def FnClientUptoSaid : Prop := fnClientUptoRow.holds Try.pinned (OpenSpec.upto fnClientSpec)

end Rows
end Go.Proofs.Ytkokejemgekfaaa
