/- The law 'FnExactShowState' answers true for every input, and each argument reads afterwards as it read before; no condition. -/
import Derived.Test.YthnpflcemooaeaaRows
import Derived.Test.YthnpflcemooaeaaL8Gt
import Derived.Test.YthnpflcemooaeaaL8P
import Derived.WalkKit
import Derived.ProofKit
import Derived.OpenShut
import Derived.ShutString
import Derived.ChangeOld
import Derived.Below
import Derived.SizedLaws
set_option linter.unusedVariables false
namespace Go.Proofs.Ythnpflcemooaeaa.fnExactShowState
open Go Go.Den Go.Den.L8 Go.ChangeShapes Go.WideShapes Go.ChangeAt Go.RowKit
theorem own : ownKnob Try.prog.godebug = none := by kernel_rfl
theorem laidOut : laidOutB Try.prog = true := by kernel_rfl
def shs : List (Bool × List Sh) := [(false, [.l [.i .i64, .l [.i .i64, .i .i64, .i .i64, .i .i64, .i .i64, .s, .l [.s, .i .i64], .i .i64, .i .i64], .i .i64, .l [.i .i64, .i .i64, .i .i64, .i .i64, .i .i64], .l [.i .i64, .i .i64, .i .i64, .i .i64, .s]]])]
set_option maxRecDepth 100000
theorem answers (xs : List DV) (h : typPs shs xs) : opt (G 8 xs) = some ([.one (.b true)], []) := by
  obtain ⟨_, _, rfl, ⟨_, rfl, ⟨_, _, ⟨⟩, ⟨x1, rfl, w1, t1⟩, _⟩⟩, rfl⟩ := h
  show opt (gOf zr8 zo8 (tu8 x1)) = _
  rw [show tu8 = t8 from U_eq _, law8] <;> first | assumption | rfl
theorem lifted (os : Os) (started : os.Started) (H : Type) (enc : TypeId × Value → H) :
    ReturnsInHanded {} Try.checked os 8 .any (Rows.fnExactShowStateSpec.pre6 enc Try.prog Try.f8 Rows.fnExactShowStateRow.domain false) (Rows.fnExactShowStateSpec.post enc Try.prog Try.f8 false true false false) := by
  refine returnsInHanded_of_change_sized (C := Try.checked) own started (by kernel_rfl) Try.func8
    (ChangeSpec.witness6 (enc := enc) (C := Try.checked) false ⟨#[], #[.slice none 0 0], []⟩ 8 (by kernel_rfl) (by kernel_rfl) (by kernel_rfl) (by kernel_rfl)) ?_
  intro W base args ds gs before hval hW _ _ _
  exact law_contract (P := Try.prog) (f := 8) (fn := Try.f8) (sg := sig 8) (F := fun xs => opt (G 8 xs)) (zs := zr8) (shs := shs) (tb := 4) (s := Rows.fnExactShowStateSpec)
    (G_ok 8) (by kernel_rfl) (by kernel_rfl) (by kernel_rfl) (by kernel_rfl) (kids_rows (by kernel_rfl) (by kernel_rfl))
    (slices_full_of Try.prog (by kernel_rfl)) (of_decide_eq_true (by kernel_rfl)) (by kernel_rfl) answers rfl
    (fun ds hd => by match ds, hd with | [_], _ => rfl) W base args ds gs before hval hW
theorem over : Rows.fnExactShowStateRow.holds Try.pinned (OpenSpec.ofChange Rows.fnExactShowStateSpec) :=
  OpenClaim.holds_of_wide 8 Try.f8 rfl rfl rfl rfl rfl rfl rfl ⟨rfl, rfl, rfl, rfl, rfl⟩ rfl rfl rfl rfl rfl (by kernel_rfl) Try.func8 (by kernel_rfl)
    (of_decide_eq_true (by kernel_rfl)) (by unfold Func.isWrapper; first | (rw [if_pos (by decide +kernel)]; kernel_rfl) | (rw [if_neg (by decide +kernel)]; exact ⟨rfl, rfl⟩))
    (fun os started H enc _ => lifted os started H enc)
theorem proved : Rows.FnExactShowStateSaid := over
#print axioms proved
end Go.Proofs.Ythnpflcemooaeaa.fnExactShowState
