/- The law 'FnExactNewTenant' answers true for every input, and each argument reads afterwards as it read before; no condition. -/
import Derived.Test.YthnpflcemooaeaaRows
import Derived.Test.YthnpflcemooaeaaL3Gt
import Derived.Test.YthnpflcemooaeaaL3P
import Derived.WalkKit
import Derived.ProofKit
import Derived.OpenShut
import Derived.ShutString
import Derived.ChangeOld
import Derived.Below
import Derived.SizedLaws
set_option linter.unusedVariables false
namespace Go.Proofs.Ythnpflcemooaeaa.fnExactNewTenant
open Go Go.Den Go.Den.L3 Go.ChangeShapes Go.WideShapes Go.ChangeAt Go.RowKit
theorem own : ownKnob Try.prog.godebug = none := by kernel_rfl
theorem laidOut : laidOutB Try.prog = true := by kernel_rfl
def shs : List (Bool × List Sh) := []
set_option maxRecDepth 100000
theorem answers (xs : List DV) (h : typPs shs xs) : opt (G 3 xs) = some ([.one (.b true)], []) := by
  obtain rfl := h
  show opt (gOf zr3 zo3 (tu3)) = _
  rw [tu3_eq, law3] <;> first | assumption | rfl
theorem lifted (os : Os) (started : os.Started) (H : Type) (enc : TypeId × Value → H) :
    ReturnsInHanded {} Try.checked os 3 .any (Rows.fnExactNewTenantSpec.pre6 enc Try.prog Try.f3 Rows.fnExactNewTenantRow.domain false) (Rows.fnExactNewTenantSpec.post enc Try.prog Try.f3 false true false false) := by
  refine returnsInHanded_of_change_sized (C := Try.checked) own started (by kernel_rfl) Try.func3
    (ChangeSpec.witness6 (enc := enc) (C := Try.checked) false ⟨#[], #[], []⟩ 8 (by kernel_rfl) (by kernel_rfl) (by kernel_rfl) (by kernel_rfl)) ?_
  intro W base args ds gs before hval hW _ _ _
  exact law_contract (P := Try.prog) (f := 3) (fn := Try.f3) (sg := sig 3) (F := fun xs => opt (G 3 xs)) (zs := zr3) (shs := shs) (tb := 4) (s := Rows.fnExactNewTenantSpec)
    (G_ok 3) (by kernel_rfl) (by kernel_rfl) (by kernel_rfl) (by kernel_rfl) (kids_rows (by kernel_rfl) (by kernel_rfl))
    (slices_full_of Try.prog (by kernel_rfl)) (of_decide_eq_true (by kernel_rfl)) (by kernel_rfl) answers rfl
    (fun ds hd => by match ds, hd with | [], _ => rfl) W base args ds gs before hval hW
theorem over : Rows.fnExactNewTenantRow.holds Try.pinned (OpenSpec.ofChange Rows.fnExactNewTenantSpec) :=
  OpenClaim.holds_of_wide 3 Try.f3 rfl rfl rfl rfl rfl rfl rfl ⟨rfl, rfl, rfl, rfl, rfl⟩ rfl rfl rfl rfl rfl (by kernel_rfl) Try.func3 (by kernel_rfl)
    (of_decide_eq_true (by kernel_rfl)) (by unfold Func.isWrapper; first | (rw [if_pos (by decide +kernel)]; kernel_rfl) | (rw [if_neg (by decide +kernel)]; exact ⟨rfl, rfl⟩))
    (fun os started H enc _ => lifted os started H enc)
theorem proved : Rows.FnExactNewTenantSaid := over
#print axioms proved
end Go.Proofs.Ythnpflcemooaeaa.fnExactNewTenant
