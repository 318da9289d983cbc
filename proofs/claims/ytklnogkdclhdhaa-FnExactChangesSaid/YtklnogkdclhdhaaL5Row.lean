/- The law 'FnExactChanges' answers true for every input, and each argument reads afterwards as it read before; no condition. -/
import Derived.Test.YtklnogkdclhdhaaRows
import Derived.Test.YtklnogkdclhdhaaL5Gt
import Derived.Test.YtklnogkdclhdhaaL5P
import Derived.WalkKit
import Derived.ProofKit
import Derived.OpenShut
import Derived.ShutString
import Derived.ChangeOld
import Derived.Below
import Derived.SizedLaws
set_option linter.unusedVariables false
namespace Go.Proofs.Ytklnogkdclhdhaa.fnExactChanges
open Go Go.Den Go.Den.L5 Go.ChangeShapes Go.WideShapes Go.ChangeAt Go.RowKit
theorem own : ownKnob Try.prog.godebug = none := by kernel_rfl
theorem laidOut : laidOutB Try.prog = true := by kernel_rfl
def shs : List (Bool × List Sh) := [(true, [.i .i64, .i .i64, .i .i64, .i .i64, .s, .l [.i .i64, .s]]), (true, [.i .i64, .i .i64, .i .i64, .i .i64, .s, .l [.i .i64, .s]])]
set_option maxRecDepth 100000
theorem answers (xs : List DV) (h : typPs shs xs) : opt (G 5 xs) = some ([.one (.b true)], []) := by
  obtain ⟨_, _, rfl, ⟨_, rfl, ⟨_, _, rfl, ⟨x1, rfl, w1⟩, ⟨_, _, rfl, ⟨x2, rfl, w2⟩, ⟨_, _, rfl, ⟨x3, rfl, w3⟩, ⟨_, _, rfl, ⟨x4, rfl, w4⟩, ⟨_, _, rfl, ⟨x5, rfl, w5⟩, ⟨_, _, rfl, ⟨x6, rfl, w6, t6⟩, rfl⟩⟩⟩⟩⟩⟩⟩, ⟨_, _, rfl, ⟨_, rfl, ⟨_, _, rfl, ⟨x7, rfl, w7⟩, ⟨_, _, rfl, ⟨x8, rfl, w8⟩, ⟨_, _, rfl, ⟨x9, rfl, w9⟩, ⟨_, _, rfl, ⟨x10, rfl, w10⟩, ⟨_, _, rfl, ⟨x11, rfl, w11⟩, ⟨_, _, rfl, ⟨x12, rfl, w12, t12⟩, rfl⟩⟩⟩⟩⟩⟩⟩, rfl⟩⟩ := h
  show opt (gOf zr5 zo5 (tu5 x1 x2 x3 x4 x5 x6 x7 x8 x9 x10 x11 x12)) = _
  rw [show tu5 = t5 from U_eq _, law5] <;> first | assumption | rfl
theorem lifted (os : Os) (started : os.Started) (H : Type) (enc : TypeId × Value → H) :
    ReturnsInHanded {} Try.checked os 5 .any (Rows.fnExactChangesSpec.pre6 enc Try.prog Try.f5 Rows.fnExactChangesRow.domain false) (Rows.fnExactChangesSpec.post enc Try.prog Try.f5 false true false false) := by
  refine returnsInHanded_of_change_sized (C := Try.checked) own started (by kernel_rfl) Try.func5
    (ChangeSpec.witness6 (enc := enc) (C := Try.checked) false ⟨#[], #[.agg #[.int .i64 0, .int .i64 0, .int .i64 0, .int .i64 0, .string ByteArray.empty, .slice none 0 0], .agg #[.int .i64 0, .int .i64 0, .int .i64 0, .int .i64 0, .string ByteArray.empty, .slice none 0 0]], []⟩ 8 (by kernel_rfl) (by kernel_rfl) (by kernel_rfl) (by kernel_rfl)) ?_
  intro W base args ds gs before hval hW _ _ _
  exact law_contract (P := Try.prog) (f := 5) (fn := Try.f5) (sg := sig 5) (F := fun xs => opt (G 5 xs)) (zs := zr5) (shs := shs) (tb := 4) (s := Rows.fnExactChangesSpec)
    (G_ok 5) (by kernel_rfl) (by kernel_rfl) (by kernel_rfl) (by kernel_rfl) (kids_rows (by kernel_rfl) (by kernel_rfl))
    (slices_full_of Try.prog (by kernel_rfl)) (of_decide_eq_true (by kernel_rfl)) (by kernel_rfl) answers rfl
    (fun ds hd => by match ds, hd with | [_, _], _ => rfl) W base args ds gs before hval hW
theorem over : Rows.fnExactChangesRow.holds Try.pinned (OpenSpec.ofChange Rows.fnExactChangesSpec) :=
  OpenClaim.holds_of_wide 5 Try.f5 rfl rfl rfl rfl rfl rfl rfl ⟨rfl, rfl, rfl, rfl, rfl⟩ rfl rfl rfl rfl rfl (by kernel_rfl) Try.func5 (by kernel_rfl)
    (of_decide_eq_true (by kernel_rfl)) (by unfold Func.isWrapper; first | (rw [if_pos (by decide +kernel)]; kernel_rfl) | (rw [if_neg (by decide +kernel)]; exact ⟨rfl, rfl⟩))
    (fun os started H enc _ => lifted os started H enc)
theorem proved : Rows.FnExactChangesSaid := over
#print axioms proved
end Go.Proofs.Ytklnogkdclhdhaa.fnExactChanges
