/- The law 'FnStore' answers true for every input, and each argument reads afterwards as it read before; no condition. -/
import Derived.Test.YtklnogkdclhdhaaRows
import Derived.Test.YtklnogkdclhdhaaL11Gt
import Derived.Test.YtklnogkdclhdhaaL11P
import Derived.WalkKit
import Derived.ProofKit
import Derived.OpenShut
import Derived.ShutString
import Derived.ChangeOld
import Derived.Below
import Derived.SizedLaws
set_option linter.unusedVariables false
namespace Go.Proofs.Ytklnogkdclhdhaa.fnStore
open Go Go.Den Go.Den.L11 Go.ChangeShapes Go.WideShapes Go.ChangeAt Go.RowKit
theorem own : ownKnob Try.prog.godebug = none := by kernel_rfl
theorem laidOut : laidOutB Try.prog = true := by kernel_rfl
def shs : List (Bool × List Sh) := [(false, [.l [.i .u8]])]
set_option maxRecDepth 100000
theorem answers (xs : List DV) (h : typPs shs xs) : opt (G 11 xs) = some ([.one (.b true)], []) := by
  obtain ⟨_, _, rfl, ⟨_, rfl, ⟨_, _, ⟨⟩, ⟨x1, rfl, w1, t1⟩, _⟩⟩, rfl⟩ := h
  show opt (gOf zr11 zo11 (tu11 x1)) = _
  rw [show tu11 = t11 from U_eq _, law11] <;> first | assumption | rfl
theorem lifted (os : Os) (started : os.Started) (H : Type) (enc : TypeId × Value → H) :
    ReturnsInHanded {} Try.checked os 11 .any (Rows.fnStoreSpec.pre6 enc Try.prog Try.f11 Rows.fnStoreRow.domain false) (Rows.fnStoreSpec.post enc Try.prog Try.f11 false true false false) := by
  refine returnsInHanded_of_change_sized (C := Try.checked) own started (by kernel_rfl) Try.func11
    (ChangeSpec.witness6 (enc := enc) (C := Try.checked) false ⟨#[], #[.slice none 0 0], []⟩ 8 (by kernel_rfl) (by kernel_rfl) (by kernel_rfl) (by kernel_rfl)) ?_
  intro W base args ds gs before hval hW _ _ _
  exact law_contract (P := Try.prog) (f := 11) (fn := Try.f11) (sg := sig 11) (F := fun xs => opt (G 11 xs)) (zs := zr11) (shs := shs) (tb := 4) (s := Rows.fnStoreSpec)
    (G_ok 11) (by kernel_rfl) (by kernel_rfl) (by kernel_rfl) (by kernel_rfl) (kids_rows (by kernel_rfl) (by kernel_rfl))
    (slices_full_of Try.prog (by kernel_rfl)) (of_decide_eq_true (by kernel_rfl)) (by kernel_rfl) answers rfl
    (fun ds hd => by match ds, hd with | [_], _ => rfl) W base args ds gs before hval hW
theorem over : Rows.fnStoreRow.holds Try.pinned (OpenSpec.ofChange Rows.fnStoreSpec) :=
  OpenClaim.holds_of_wide 11 Try.f11 rfl rfl rfl rfl rfl rfl rfl ⟨rfl, rfl, rfl, rfl, rfl⟩ rfl rfl rfl rfl rfl (by kernel_rfl) Try.func11 (by kernel_rfl)
    (of_decide_eq_true (by kernel_rfl)) (by unfold Func.isWrapper; first | (rw [if_pos (by decide +kernel)]; kernel_rfl) | (rw [if_neg (by decide +kernel)]; exact ⟨rfl, rfl⟩))
    (fun os started H enc _ => lifted os started H enc)
theorem proved : Rows.FnStoreSaid := over
#print axioms proved
end Go.Proofs.Ytklnogkdclhdhaa.fnStore
