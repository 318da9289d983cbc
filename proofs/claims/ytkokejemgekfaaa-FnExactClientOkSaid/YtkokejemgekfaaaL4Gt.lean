/- The functions' table, and that each is what its twin says. Printed by tw.py. -/
import Derived.Test.YtkokejemgekfaaaL4Tw
import Derived.Test.YtkokejemgekfaaaProg
import Derived.KernelRfl
set_option linter.unusedVariables false
namespace Go.Den.L4
open Go Go.Proofs
noncomputable section
set_option maxRecDepth 100000
def sg23 : Sig := ⟨[.bor, .bor], .sc [.one (.i .i64 0)], [0, 1, 2, 4, 11, 18, 25], []⟩
def sg19 : Sig := ⟨[.bor, .bor], .sc [.one (.i .i64 0)], [0, 1, 2, 4, 10], []⟩
def sg25 : Sig := ⟨[.bor], .sc [.agg [.i .i64 0, .s ⟨#[]⟩, .s ⟨#[]⟩, .i .i64 0, .i .i64 0, .s ⟨#[]⟩]], [0, 1, 2, 3], []⟩
def sg21 : Sig := ⟨[.bor], .sc [.agg [.i .i64 0, .i .i64 0, .i .i64 0, .b false, .i .i64 0, .s ⟨#[]⟩, .s ⟨#[]⟩, .i .i64 0, .i .i64 0, .s ⟨#[]⟩, .i .i64 0]], [0, 1, 2, 3], []⟩
def sg64 : Sig := ⟨[.bor], .sc [.one (.b false)], [0, 2], []⟩
def sg60 : Sig := ⟨[.bor, .bor, .bor], .sc [.one (.b false)], [0, 1, 2, 6], []⟩
def sg61 : Sig := ⟨[.bor], .sc [.one (.b false)], [0, 1, 2, 36, 54], []⟩
def sg20 : Sig := ⟨[.bor], .sc [.one (.b false)], [0, 1, 2, 24, 26], []⟩
def sg62 : Sig := ⟨[.bor, .bor, .bor], .sc [.one (.b false)], [0, 1, 2, 6], []⟩
def sg63 : Sig := ⟨[.bor], .sc [.one (.b false)], [0, 1, 2, 3, 4, 41], []⟩
def sg22 : Sig := ⟨[.bor], .sc [.one (.b false)], [0, 1, 2, 24, 26], []⟩
def sg4 : Sig := ⟨[.bor], .sc [.one (.b false)], [0, 1, 2, 3, 4, 5, 10, 19], []⟩
def sig : Nat → Sig := lkF ⟨[], .fresh [], [], []⟩ [(23, sg23), (19, sg19), (25, sg25), (21, sg21), (64, sg64), (60, sg60), (61, sg61), (20, sg20), (62, sg62), (63, sg63), (22, sg22), (4, sg4)]
def dep : Nat → Nat := lkF 0 [(23, 1), (19, 2), (25, 1), (21, 2), (64, 1), (60, 1), (61, 2), (20, 3), (62, 1), (63, 2), (22, 3), (4, 4)]
def gT : List (Nat × (List DV → Bool × List DV × List (List D))) := [(23, g23), (19, g19), (25, g25), (21, g21), (64, g64), (60, g60), (61, g61), (20, g20), (62, g62), (63, g63), (22, g22), (4, g4)]
def G : Nat → List DV → Bool × List DV × List (List D) := lkF (fun _ => (false, [], [])) gT
noncomputable def C23 : Ctx := ⟨Try.prog, sig, Gd G dep (dep 23), (sig 23).keep, (sig 23).ord⟩
noncomputable def c23 : Code := Try.f23.body.getD .skip
def ST23 : List (Nat × (St → Cont (List DV × List (List D)) → Rs)) := []
theorem r23 : ∀ vs, v23 vs = bodyK C23 (lkS ST23) Try.f23 (sig 23) c23 (fillAs A23 0 vs) := fun vs => by kernel_rfl
theorem ok23 : ∀ xs q, opt (g23 xs) = some q → evalBody Try.prog sig (Gd G dep (dep 23)) KK 23 xs = some q := fun xs q h => body_ok Try.func23 (c := c23) rfl A23 v23 (sums_of (C := C23) (t := ST23) trivial) r23 (opt_gOf h)
noncomputable def C19 : Ctx := ⟨Try.prog, sig, Gd G dep (dep 19), (sig 19).keep, (sig 19).ord⟩
noncomputable def c19 : Code := Try.f19.body.getD .skip
def ST19 : List (Nat × (St → Cont (List DV × List (List D)) → Rs)) := []
theorem r19 : ∀ vs, v19 vs = bodyK C19 (lkS ST19) Try.f19 (sig 19) c19 (fillAs A19 0 vs) := fun vs => by kernel_rfl
theorem ok19 : ∀ xs q, opt (g19 xs) = some q → evalBody Try.prog sig (Gd G dep (dep 19)) KK 19 xs = some q := fun xs q h => body_ok Try.func19 (c := c19) rfl A19 v19 (sums_of (C := C19) (t := ST19) trivial) r19 (opt_gOf h)
noncomputable def C25 : Ctx := ⟨Try.prog, sig, Gd G dep (dep 25), (sig 25).keep, (sig 25).ord⟩
noncomputable def c25 : Code := Try.f25.body.getD .skip
def ST25 : List (Nat × (St → Cont (List DV × List (List D)) → Rs)) := []
theorem r25 : ∀ vs, v25 vs = bodyK C25 (lkS ST25) Try.f25 (sig 25) c25 (fillAs A25 0 vs) := fun vs => by kernel_rfl
theorem ok25 : ∀ xs q, opt (g25 xs) = some q → evalBody Try.prog sig (Gd G dep (dep 25)) KK 25 xs = some q := fun xs q h => body_ok Try.func25 (c := c25) rfl A25 v25 (sums_of (C := C25) (t := ST25) trivial) r25 (opt_gOf h)
noncomputable def C21 : Ctx := ⟨Try.prog, sig, Gd G dep (dep 21), (sig 21).keep, (sig 21).ord⟩
noncomputable def c21 : Code := Try.f21.body.getD .skip
def ST21 : List (Nat × (St → Cont (List DV × List (List D)) → Rs)) := []
theorem r21 : ∀ vs, v21 vs = bodyK C21 (lkS ST21) Try.f21 (sig 21) c21 (fillAs A21 0 vs) := fun vs => by kernel_rfl
theorem ok21 : ∀ xs q, opt (g21 xs) = some q → evalBody Try.prog sig (Gd G dep (dep 21)) KK 21 xs = some q := fun xs q h => body_ok Try.func21 (c := c21) rfl A21 v21 (sums_of (C := C21) (t := ST21) trivial) r21 (opt_gOf h)
noncomputable def C64 : Ctx := ⟨Try.prog, sig, Gd G dep (dep 64), (sig 64).keep, (sig 64).ord⟩
noncomputable def c64 : Code := Try.f64.body.getD .skip
def ST64 : List (Nat × (St → Cont (List DV × List (List D)) → Rs)) := []
theorem r64 : ∀ vs, v64 vs = bodyK C64 (lkS ST64) Try.f64 (sig 64) c64 (fillAs A64 0 vs) := fun vs => by kernel_rfl
theorem ok64 : ∀ xs q, opt (g64 xs) = some q → evalBody Try.prog sig (Gd G dep (dep 64)) KK 64 xs = some q := fun xs q h => body_ok Try.func64 (c := c64) rfl A64 v64 (sums_of (C := C64) (t := ST64) trivial) r64 (opt_gOf h)
noncomputable def C60 : Ctx := ⟨Try.prog, sig, Gd G dep (dep 60), (sig 60).keep, (sig 60).ord⟩
noncomputable def c60 : Code := Try.f60.body.getD .skip
def ST60 : List (Nat × (St → Cont (List DV × List (List D)) → Rs)) := []
theorem r60 : ∀ vs, v60 vs = bodyK C60 (lkS ST60) Try.f60 (sig 60) c60 (fillAs A60 0 vs) := fun vs => by kernel_rfl
theorem ok60 : ∀ xs q, opt (g60 xs) = some q → evalBody Try.prog sig (Gd G dep (dep 60)) KK 60 xs = some q := fun xs q h => body_ok Try.func60 (c := c60) rfl A60 v60 (sums_of (C := C60) (t := ST60) trivial) r60 (opt_gOf h)
noncomputable def C61 : Ctx := ⟨Try.prog, sig, Gd G dep (dep 61), (sig 61).keep, (sig 61).ord⟩
noncomputable def c61 : Code := Try.f61.body.getD .skip
def ST61 : List (Nat × (St → Cont (List DV × List (List D)) → Rs)) := []
theorem r61 : ∀ vs, v61 vs = bodyK C61 (lkS ST61) Try.f61 (sig 61) c61 (fillAs A61 0 vs) := fun vs => by kernel_rfl
theorem ok61 : ∀ xs q, opt (g61 xs) = some q → evalBody Try.prog sig (Gd G dep (dep 61)) KK 61 xs = some q := fun xs q h => body_ok Try.func61 (c := c61) rfl A61 v61 (sums_of (C := C61) (t := ST61) trivial) r61 (opt_gOf h)
noncomputable def C20 : Ctx := ⟨Try.prog, sig, Gd G dep (dep 20), (sig 20).keep, (sig 20).ord⟩
noncomputable def c20 : Code := Try.f20.body.getD .skip
def ST20 : List (Nat × (St → Cont (List DV × List (List D)) → Rs)) := []
theorem r20 : ∀ vs, v20 vs = bodyK C20 (lkS ST20) Try.f20 (sig 20) c20 (fillAs A20 0 vs) := fun vs => by kernel_rfl
theorem ok20 : ∀ xs q, opt (g20 xs) = some q → evalBody Try.prog sig (Gd G dep (dep 20)) KK 20 xs = some q := fun xs q h => body_ok Try.func20 (c := c20) rfl A20 v20 (sums_of (C := C20) (t := ST20) trivial) r20 (opt_gOf h)
noncomputable def C62 : Ctx := ⟨Try.prog, sig, Gd G dep (dep 62), (sig 62).keep, (sig 62).ord⟩
noncomputable def c62 : Code := Try.f62.body.getD .skip
def ST62 : List (Nat × (St → Cont (List DV × List (List D)) → Rs)) := []
theorem r62 : ∀ vs, v62 vs = bodyK C62 (lkS ST62) Try.f62 (sig 62) c62 (fillAs A62 0 vs) := fun vs => by kernel_rfl
theorem ok62 : ∀ xs q, opt (g62 xs) = some q → evalBody Try.prog sig (Gd G dep (dep 62)) KK 62 xs = some q := fun xs q h => body_ok Try.func62 (c := c62) rfl A62 v62 (sums_of (C := C62) (t := ST62) trivial) r62 (opt_gOf h)
noncomputable def C63 : Ctx := ⟨Try.prog, sig, Gd G dep (dep 63), (sig 63).keep, (sig 63).ord⟩
noncomputable def c63 : Code := Try.f63.body.getD .skip
def ST63 : List (Nat × (St → Cont (List DV × List (List D)) → Rs)) := []
theorem r63 : ∀ vs, v63 vs = bodyK C63 (lkS ST63) Try.f63 (sig 63) c63 (fillAs A63 0 vs) := fun vs => by kernel_rfl
theorem ok63 : ∀ xs q, opt (g63 xs) = some q → evalBody Try.prog sig (Gd G dep (dep 63)) KK 63 xs = some q := fun xs q h => body_ok Try.func63 (c := c63) rfl A63 v63 (sums_of (C := C63) (t := ST63) trivial) r63 (opt_gOf h)
noncomputable def C22 : Ctx := ⟨Try.prog, sig, Gd G dep (dep 22), (sig 22).keep, (sig 22).ord⟩
noncomputable def c22 : Code := Try.f22.body.getD .skip
def ST22 : List (Nat × (St → Cont (List DV × List (List D)) → Rs)) := []
theorem r22 : ∀ vs, v22 vs = bodyK C22 (lkS ST22) Try.f22 (sig 22) c22 (fillAs A22 0 vs) := fun vs => by kernel_rfl
theorem ok22 : ∀ xs q, opt (g22 xs) = some q → evalBody Try.prog sig (Gd G dep (dep 22)) KK 22 xs = some q := fun xs q h => body_ok Try.func22 (c := c22) rfl A22 v22 (sums_of (C := C22) (t := ST22) trivial) r22 (opt_gOf h)
noncomputable def C4 : Ctx := ⟨Try.prog, sig, Gd G dep (dep 4), (sig 4).keep, (sig 4).ord⟩
noncomputable def c4 : Code := Try.f4.body.getD .skip
def ST4 : List (Nat × (St → Cont (List DV × List (List D)) → Rs)) := []
theorem r4 : ∀ vs, v4 vs = bodyK C4 (lkS ST4) Try.f4 (sig 4) c4 (fillAs A4 0 vs) := fun vs => by kernel_rfl
theorem ok4 : ∀ xs q, opt (g4 xs) = some q → evalBody Try.prog sig (Gd G dep (dep 4)) KK 4 xs = some q := fun xs q h => body_ok Try.func4 (c := c4) rfl A4 v4 (sums_of (C := C4) (t := ST4) trivial) r4 (opt_gOf h)
theorem fn_ok : ∀ f ∈ [23, 19, 25, 21, 64, 60, 61, 20, 62, 63, 22, 4], FnOk Try.prog sig f := fun f h => fnOk_of (List.all_eq_true.1 (show [23, 19, 25, 21, 64, 60, 61, 20, 62, 63, 22, 4].all (fnOkB Try.prog sig) = true by kernel_rfl) f h)
theorem all_ok : AllG (fun f xs q => FnOk Try.prog sig f ∧ evalBody Try.prog sig (Gd G dep (dep f)) KK f xs = some q) gT :=
  ⟨fun xs q h => ⟨fn_ok 23 (by simp), ok23 xs q h⟩, fun xs q h => ⟨fn_ok 19 (by simp), ok19 xs q h⟩, fun xs q h => ⟨fn_ok 25 (by simp), ok25 xs q h⟩, fun xs q h => ⟨fn_ok 21 (by simp), ok21 xs q h⟩, fun xs q h => ⟨fn_ok 64 (by simp), ok64 xs q h⟩, fun xs q h => ⟨fn_ok 60 (by simp), ok60 xs q h⟩, fun xs q h => ⟨fn_ok 61 (by simp), ok61 xs q h⟩, fun xs q h => ⟨fn_ok 20 (by simp), ok20 xs q h⟩, fun xs q h => ⟨fn_ok 62 (by simp), ok62 xs q h⟩, fun xs q h => ⟨fn_ok 63 (by simp), ok63 xs q h⟩, fun xs q h => ⟨fn_ok 22 (by simp), ok22 xs q h⟩, fun xs q h => ⟨fn_ok 4 (by simp), ok4 xs q h⟩, trivial⟩
theorem G_ok (f : Nat) : SpecOk Try.prog (sig f) (fun xs => opt (G f xs)) f := G_spec (by kernel_rfl) (allG_of all_ok) f
end
end Go.Den.L4
