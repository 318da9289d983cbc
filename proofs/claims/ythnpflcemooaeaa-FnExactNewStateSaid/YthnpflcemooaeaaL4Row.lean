/- The law 'FnExactNewState' answers true for every input, and each argument reads afterwards as it read before; no condition. -/
import Derived.Test.YthnpflcemooaeaaRows
import Derived.Test.YthnpflcemooaeaaL4Gt
import Derived.Test.YthnpflcemooaeaaL4P
import Derived.WalkKit
import Derived.ProofKit
import Derived.OpenShut
import Derived.ShutString
import Derived.ChangeOld
import Derived.Below
import Derived.SizedLaws
set_option linter.unusedVariables false
namespace Go.Proofs.Ythnpflcemooaeaa.fnExactNewState
open Go Go.Den Go.Den.L4 Go.ChangeShapes Go.WideShapes Go.ChangeAt Go.RowKit
theorem own : ownKnob Try.prog.godebug = none := by kernel_rfl
theorem laidOut : laidOutB Try.prog = true := by kernel_rfl
def shs : List (Bool × List Sh) := []
set_option maxRecDepth 100000
theorem answers (xs : List DV) (h : typPs shs xs) : opt (G 4 xs) = some ([.one (.b true)], []) := by
  obtain rfl := h
  show opt (gOf zr4 zo4 (tu4)) = _
  rw [tu4_eq, law4] <;> first | assumption | rfl
theorem lifted (os : Os) (started : os.Started) (H : Type) (enc : TypeId × Value → H) :
    ReturnsInHanded {} Try.checked os 4 .any (Rows.fnExactNewStateSpec.pre6 enc Try.prog Try.f4 Rows.fnExactNewStateRow.domain false) (Rows.fnExactNewStateSpec.post enc Try.prog Try.f4 false true false false) := by
  refine returnsInHanded_of_change_sized (C := Try.checked) own started (by kernel_rfl) Try.func4
    (ChangeSpec.witness6 (enc := enc) (C := Try.checked) false ⟨#[], #[], []⟩ 8 (by kernel_rfl) (by kernel_rfl) (by kernel_rfl) (by kernel_rfl)) ?_
  intro W base args ds gs before hval hW _ _ _
  exact law_contract (P := Try.prog) (f := 4) (fn := Try.f4) (sg := sig 4) (F := fun xs => opt (G 4 xs)) (zs := zr4) (shs := shs) (tb := 4) (s := Rows.fnExactNewStateSpec)
    (G_ok 4) (by kernel_rfl) (by kernel_rfl) (by kernel_rfl) (by kernel_rfl) (kids_rows (by kernel_rfl) (by kernel_rfl))
    (slices_full_of Try.prog (by kernel_rfl)) (of_decide_eq_true (by kernel_rfl)) (by kernel_rfl) answers rfl
    (fun ds hd => by match ds, hd with | [], _ => rfl) W base args ds gs before hval hW
theorem over : Rows.fnExactNewStateRow.holds Try.pinned (OpenSpec.ofChange Rows.fnExactNewStateSpec) :=
  OpenClaim.holds_of_wide 4 Try.f4 rfl rfl rfl rfl rfl rfl rfl ⟨rfl, rfl, rfl, rfl, rfl⟩ rfl rfl rfl rfl rfl (by kernel_rfl) Try.func4 (by kernel_rfl)
    (of_decide_eq_true (by kernel_rfl)) (by unfold Func.isWrapper; first | (rw [if_pos (by decide +kernel)]; kernel_rfl) | (rw [if_neg (by decide +kernel)]; exact ⟨rfl, rfl⟩))
    (fun os started H enc _ => lifted os started H enc)
theorem proved : Rows.FnExactNewStateSaid := over
#print axioms proved
end Go.Proofs.Ythnpflcemooaeaa.fnExactNewState
