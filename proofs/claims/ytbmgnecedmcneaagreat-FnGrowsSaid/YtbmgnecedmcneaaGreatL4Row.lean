/- The law 'FnGrows' answers true for every input, and each argument reads afterwards as it read before; no condition. -/
import Derived.Test.YtbmgnecedmcneaaGreatRows
import Derived.Test.YtbmgnecedmcneaaGreatL4Gt
import Derived.Test.YtbmgnecedmcneaaGreatL4P
import Derived.WalkKit
import Derived.ProofKit
import Derived.OpenShut
import Derived.ShutString
import Derived.ChangeOld
import Derived.Below
import Derived.SizedLaws
set_option linter.unusedVariables false
namespace Go.Proofs.YtbmgnecedmcneaaGreat.fnGrows
open Go Go.Den Go.Den.L4 Go.ChangeShapes Go.WideShapes Go.ChangeAt Go.RowKit
theorem own : ownKnob Tryz.prog.godebug = none := by kernel_rfl
theorem laidOut : laidOutB Tryz.prog = true := by kernel_rfl
def shs : List (Bool × List Sh) := [(false, [.l [.i .u8]])]
set_option maxRecDepth 100000
theorem answers (xs : List DV) (h : typPs shs xs) : opt (G 4 xs) = some ([.one (.b true)], []) := by
  obtain ⟨_, _, rfl, ⟨_, rfl, ⟨_, _, ⟨⟩, ⟨x1, rfl, w1, t1⟩, _⟩⟩, rfl⟩ := h
  show opt (gOf zr4 zo4 (tu4 x1)) = _
  rw [show tu4 = t4 from U_eq _, law4] <;> first | assumption | rfl
theorem lifted (os : Os) (started : os.Started) (H : Type) (enc : TypeId × Value → H) :
    ReturnsInHanded {} Tryz.checked os 4 .any (Rows.fnGrowsSpec.pre6 enc Tryz.prog Tryz.f4 Rows.fnGrowsRow.domain false) (Rows.fnGrowsSpec.post enc Tryz.prog Tryz.f4 false true false false) := by
  refine returnsInHanded_of_change_sized (C := Tryz.checked) own started (by kernel_rfl) Tryz.func4
    (ChangeSpec.witness6 (enc := enc) (C := Tryz.checked) false ⟨#[], #[.slice none 0 0], []⟩ 8 (by kernel_rfl) (by kernel_rfl) (by kernel_rfl) (by kernel_rfl)) ?_
  intro W base args ds gs before hval hW _ _ _
  exact law_contract (P := Tryz.prog) (f := 4) (fn := Tryz.f4) (sg := sig 4) (F := fun xs => opt (G 4 xs)) (zs := zr4) (shs := shs) (tb := 4) (s := Rows.fnGrowsSpec)
    (G_ok 4) (by kernel_rfl) (by kernel_rfl) (by kernel_rfl) (by kernel_rfl) (kids_rows (by kernel_rfl) (by kernel_rfl))
    (slices_full_of Tryz.prog (by kernel_rfl)) (of_decide_eq_true (by kernel_rfl)) (by kernel_rfl) answers rfl
    (fun ds hd => by match ds, hd with | [_], _ => rfl) W base args ds gs before hval hW
theorem over : Rows.fnGrowsRow.holds Tryz.pinned (OpenSpec.ofChange Rows.fnGrowsSpec) :=
  OpenClaim.holds_of_wide 4 Tryz.f4 rfl rfl rfl rfl rfl rfl rfl ⟨rfl, rfl, rfl, rfl, rfl⟩ rfl rfl rfl rfl rfl (by kernel_rfl) Tryz.func4 (by kernel_rfl)
    (of_decide_eq_true (by kernel_rfl)) (by unfold Func.isWrapper; first | (rw [if_pos (by decide +kernel)]; kernel_rfl) | (rw [if_neg (by decide +kernel)]; exact ⟨rfl, rfl⟩))
    (fun os started H enc _ => lifted os started H enc)
theorem proved : Rows.FnGrowsSaid := over
#print axioms proved
end Go.Proofs.YtbmgnecedmcneaaGreat.fnGrows
