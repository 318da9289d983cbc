/- The law 'FnExactTenantTick' answers true for every input, and each argument reads afterwards as it read before; no condition. -/
import Derived.Test.YthnpflcemooaeaaRows
import Derived.Test.YthnpflcemooaeaaL9Gt
import Derived.Test.YthnpflcemooaeaaL9P
import Derived.WalkKit
import Derived.ProofKit
import Derived.OpenShut
import Derived.ShutString
import Derived.ChangeOld
import Derived.Below
import Derived.SizedLaws
set_option linter.unusedVariables false
namespace Go.Proofs.Ythnpflcemooaeaa.fnExactTenantTick
open Go Go.Den Go.Den.L9 Go.ChangeShapes Go.WideShapes Go.ChangeAt Go.RowKit
theorem own : ownKnob Try.prog.godebug = none := by kernel_rfl
theorem laidOut : laidOutB Try.prog = true := by kernel_rfl
def shs : List (Bool × List Sh) := [(true, [.i .i64, .l [.i .i64, .i .i64, .i .i64, .i .i64, .i .i64, .s, .l [.s, .i .i64], .i .i64, .i .i64], .i .i64, .l [.i .i64, .i .i64, .i .i64, .i .i64, .i .i64], .l [.i .i64, .i .i64, .i .i64, .i .i64, .s]])]
set_option maxRecDepth 100000
theorem answers (xs : List DV) (h : typPs shs xs) : opt (G 9 xs) = some ([.one (.b true)], []) := by
  obtain ⟨_, _, rfl, ⟨_, rfl, ⟨_, _, rfl, ⟨x1, rfl, w1⟩, ⟨_, _, rfl, ⟨x2, rfl, w2, t2⟩, ⟨_, _, rfl, ⟨x3, rfl, w3⟩, ⟨_, _, rfl, ⟨x4, rfl, w4, t4⟩, ⟨_, _, rfl, ⟨x5, rfl, w5, t5⟩, rfl⟩⟩⟩⟩⟩⟩, rfl⟩ := h
  show opt (gOf zr9 zo9 (tu9 x1 x2 x3 x4 x5)) = _
  rw [show tu9 = t9 from U_eq _, law9] <;> first | assumption | rfl
theorem lifted (os : Os) (started : os.Started) (H : Type) (enc : TypeId × Value → H) :
    ReturnsInHanded {} Try.checked os 9 .any (Rows.fnExactTenantTickSpec.pre6 enc Try.prog Try.f9 Rows.fnExactTenantTickRow.domain false) (Rows.fnExactTenantTickSpec.post enc Try.prog Try.f9 false true false false) := by
  refine returnsInHanded_of_change_sized (C := Try.checked) own started (by kernel_rfl) Try.func9
    (ChangeSpec.witness6 (enc := enc) (C := Try.checked) false ⟨#[], #[.agg #[.int .i64 0, .slice none 0 0, .int .i64 0, .slice none 0 0, .slice none 0 0]], []⟩ 8 (by kernel_rfl) (by kernel_rfl) (by kernel_rfl) (by kernel_rfl)) ?_
  intro W base args ds gs before hval hW _ _ _
  exact law_contract (P := Try.prog) (f := 9) (fn := Try.f9) (sg := sig 9) (F := fun xs => opt (G 9 xs)) (zs := zr9) (shs := shs) (tb := 4) (s := Rows.fnExactTenantTickSpec)
    (G_ok 9) (by kernel_rfl) (by kernel_rfl) (by kernel_rfl) (by kernel_rfl) (kids_rows (by kernel_rfl) (by kernel_rfl))
    (slices_full_of Try.prog (by kernel_rfl)) (of_decide_eq_true (by kernel_rfl)) (by kernel_rfl) answers rfl
    (fun ds hd => by match ds, hd with | [_], _ => rfl) W base args ds gs before hval hW
theorem over : Rows.fnExactTenantTickRow.holds Try.pinned (OpenSpec.ofChange Rows.fnExactTenantTickSpec) :=
  OpenClaim.holds_of_wide 9 Try.f9 rfl rfl rfl rfl rfl rfl rfl ⟨rfl, rfl, rfl, rfl, rfl⟩ rfl rfl rfl rfl rfl (by kernel_rfl) Try.func9 (by kernel_rfl)
    (of_decide_eq_true (by kernel_rfl)) (by unfold Func.isWrapper; first | (rw [if_pos (by decide +kernel)]; kernel_rfl) | (rw [if_neg (by decide +kernel)]; exact ⟨rfl, rfl⟩))
    (fun os started H enc _ => lifted os started H enc)
theorem proved : Rows.FnExactTenantTickSaid := over
#print axioms proved
end Go.Proofs.Ythnpflcemooaeaa.fnExactTenantTick
