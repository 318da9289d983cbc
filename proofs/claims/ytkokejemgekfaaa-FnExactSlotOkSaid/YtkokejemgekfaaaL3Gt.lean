/- The functions' table, and that each is what its twin says. Printed by tw.py. -/
import Derived.Test.YtkokejemgekfaaaL3Tw
import Derived.Test.YtkokejemgekfaaaProg
import Derived.KernelRfl
set_option linter.unusedVariables false
namespace Go.Den.L3
open Go Go.Proofs
noncomputable section
set_option maxRecDepth 100000
def sg23 : Sig := ⟨[.bor, .bor], .sc [.one (.i .i64 0)], [0, 1, 2, 4, 11, 18, 25], []⟩
def sg15 : Sig := ⟨[.bor, .bor], .sc [.one (.i .i64 0)], [0, 1, 2, 4, 10], []⟩
def sg25 : Sig := ⟨[.bor], .sc [.agg [.i .i64 0, .s ⟨#[]⟩, .s ⟨#[]⟩, .i .i64 0, .i .i64 0, .s ⟨#[]⟩]], [0, 1, 2, 3], []⟩
def sg17 : Sig := ⟨[.bor], .sc [.agg [.i .i64 0, .i .i64 0, .i .i64 0, .i .i64 0, .s ⟨#[]⟩, .s ⟨#[]⟩, .i .i64 0, .i .i64 0, .s ⟨#[]⟩]], [0, 1, 2, 3], []⟩
def sg60 : Sig := ⟨[.bor, .bor, .bor], .sc [.one (.b false)], [0, 1, 2, 6], []⟩
def sg61 : Sig := ⟨[.bor], .sc [.one (.b false)], [0, 1, 2, 36, 54], []⟩
def sg16 : Sig := ⟨[.bor], .sc [.one (.b false)], [0, 1, 2], []⟩
def sg62 : Sig := ⟨[.bor, .bor, .bor], .sc [.one (.b false)], [0, 1, 2, 6], []⟩
def sg63 : Sig := ⟨[.bor], .sc [.one (.b false)], [0, 1, 2, 3, 4, 41], []⟩
def sg18 : Sig := ⟨[.bor], .sc [.one (.b false)], [0, 1, 2], []⟩
def sg3 : Sig := ⟨[.bor], .sc [.one (.b false)], [0, 1, 2, 3, 4, 5, 10, 19], []⟩
def sig : Nat → Sig := lkF ⟨[], .fresh [], [], []⟩ [(23, sg23), (15, sg15), (25, sg25), (17, sg17), (60, sg60), (61, sg61), (16, sg16), (62, sg62), (63, sg63), (18, sg18), (3, sg3)]
def dep : Nat → Nat := lkF 0 [(23, 1), (15, 2), (25, 1), (17, 2), (60, 1), (61, 2), (16, 3), (62, 1), (63, 2), (18, 3), (3, 4)]
def gT : List (Nat × (List DV → Bool × List DV × List (List D))) := [(23, g23), (15, g15), (25, g25), (17, g17), (60, g60), (61, g61), (16, g16), (62, g62), (63, g63), (18, g18), (3, g3)]
def G : Nat → List DV → Bool × List DV × List (List D) := lkF (fun _ => (false, [], [])) gT
noncomputable def C23 : Ctx := ⟨Try.prog, sig, Gd G dep (dep 23), (sig 23).keep, (sig 23).ord⟩
noncomputable def c23 : Code := Try.f23.body.getD .skip
def ST23 : List (Nat × (St → Cont (List DV × List (List D)) → Rs)) := []
theorem r23 : ∀ vs, v23 vs = bodyK C23 (lkS ST23) Try.f23 (sig 23) c23 (fillAs A23 0 vs) := fun vs => by kernel_rfl
theorem ok23 : ∀ xs q, opt (g23 xs) = some q → evalBody Try.prog sig (Gd G dep (dep 23)) KK 23 xs = some q := fun xs q h => body_ok Try.func23 (c := c23) rfl A23 v23 (sums_of (C := C23) (t := ST23) trivial) r23 (opt_gOf h)
noncomputable def C15 : Ctx := ⟨Try.prog, sig, Gd G dep (dep 15), (sig 15).keep, (sig 15).ord⟩
noncomputable def c15 : Code := Try.f15.body.getD .skip
def ST15 : List (Nat × (St → Cont (List DV × List (List D)) → Rs)) := []
theorem r15 : ∀ vs, v15 vs = bodyK C15 (lkS ST15) Try.f15 (sig 15) c15 (fillAs A15 0 vs) := fun vs => by kernel_rfl
theorem ok15 : ∀ xs q, opt (g15 xs) = some q → evalBody Try.prog sig (Gd G dep (dep 15)) KK 15 xs = some q := fun xs q h => body_ok Try.func15 (c := c15) rfl A15 v15 (sums_of (C := C15) (t := ST15) trivial) r15 (opt_gOf h)
noncomputable def C25 : Ctx := ⟨Try.prog, sig, Gd G dep (dep 25), (sig 25).keep, (sig 25).ord⟩
noncomputable def c25 : Code := Try.f25.body.getD .skip
def ST25 : List (Nat × (St → Cont (List DV × List (List D)) → Rs)) := []
theorem r25 : ∀ vs, v25 vs = bodyK C25 (lkS ST25) Try.f25 (sig 25) c25 (fillAs A25 0 vs) := fun vs => by kernel_rfl
theorem ok25 : ∀ xs q, opt (g25 xs) = some q → evalBody Try.prog sig (Gd G dep (dep 25)) KK 25 xs = some q := fun xs q h => body_ok Try.func25 (c := c25) rfl A25 v25 (sums_of (C := C25) (t := ST25) trivial) r25 (opt_gOf h)
noncomputable def C17 : Ctx := ⟨Try.prog, sig, Gd G dep (dep 17), (sig 17).keep, (sig 17).ord⟩
noncomputable def c17 : Code := Try.f17.body.getD .skip
def ST17 : List (Nat × (St → Cont (List DV × List (List D)) → Rs)) := []
theorem r17 : ∀ vs, v17 vs = bodyK C17 (lkS ST17) Try.f17 (sig 17) c17 (fillAs A17 0 vs) := fun vs => by kernel_rfl
theorem ok17 : ∀ xs q, opt (g17 xs) = some q → evalBody Try.prog sig (Gd G dep (dep 17)) KK 17 xs = some q := fun xs q h => body_ok Try.func17 (c := c17) rfl A17 v17 (sums_of (C := C17) (t := ST17) trivial) r17 (opt_gOf h)
noncomputable def C60 : Ctx := ⟨Try.prog, sig, Gd G dep (dep 60), (sig 60).keep, (sig 60).ord⟩
noncomputable def c60 : Code := Try.f60.body.getD .skip
def ST60 : List (Nat × (St → Cont (List DV × List (List D)) → Rs)) := []
theorem r60 : ∀ vs, v60 vs = bodyK C60 (lkS ST60) Try.f60 (sig 60) c60 (fillAs A60 0 vs) := fun vs => by kernel_rfl
theorem ok60 : ∀ xs q, opt (g60 xs) = some q → evalBody Try.prog sig (Gd G dep (dep 60)) KK 60 xs = some q := fun xs q h => body_ok Try.func60 (c := c60) rfl A60 v60 (sums_of (C := C60) (t := ST60) trivial) r60 (opt_gOf h)
noncomputable def C61 : Ctx := ⟨Try.prog, sig, Gd G dep (dep 61), (sig 61).keep, (sig 61).ord⟩
noncomputable def c61 : Code := Try.f61.body.getD .skip
def ST61 : List (Nat × (St → Cont (List DV × List (List D)) → Rs)) := []
theorem r61 : ∀ vs, v61 vs = bodyK C61 (lkS ST61) Try.f61 (sig 61) c61 (fillAs A61 0 vs) := fun vs => by kernel_rfl
theorem ok61 : ∀ xs q, opt (g61 xs) = some q → evalBody Try.prog sig (Gd G dep (dep 61)) KK 61 xs = some q := fun xs q h => body_ok Try.func61 (c := c61) rfl A61 v61 (sums_of (C := C61) (t := ST61) trivial) r61 (opt_gOf h)
noncomputable def C16 : Ctx := ⟨Try.prog, sig, Gd G dep (dep 16), (sig 16).keep, (sig 16).ord⟩
noncomputable def c16 : Code := Try.f16.body.getD .skip
def ST16 : List (Nat × (St → Cont (List DV × List (List D)) → Rs)) := []
theorem r16 : ∀ vs, v16 vs = bodyK C16 (lkS ST16) Try.f16 (sig 16) c16 (fillAs A16 0 vs) := fun vs => by kernel_rfl
theorem ok16 : ∀ xs q, opt (g16 xs) = some q → evalBody Try.prog sig (Gd G dep (dep 16)) KK 16 xs = some q := fun xs q h => body_ok Try.func16 (c := c16) rfl A16 v16 (sums_of (C := C16) (t := ST16) trivial) r16 (opt_gOf h)
noncomputable def C62 : Ctx := ⟨Try.prog, sig, Gd G dep (dep 62), (sig 62).keep, (sig 62).ord⟩
noncomputable def c62 : Code := Try.f62.body.getD .skip
def ST62 : List (Nat × (St → Cont (List DV × List (List D)) → Rs)) := []
theorem r62 : ∀ vs, v62 vs = bodyK C62 (lkS ST62) Try.f62 (sig 62) c62 (fillAs A62 0 vs) := fun vs => by kernel_rfl
theorem ok62 : ∀ xs q, opt (g62 xs) = some q → evalBody Try.prog sig (Gd G dep (dep 62)) KK 62 xs = some q := fun xs q h => body_ok Try.func62 (c := c62) rfl A62 v62 (sums_of (C := C62) (t := ST62) trivial) r62 (opt_gOf h)
noncomputable def C63 : Ctx := ⟨Try.prog, sig, Gd G dep (dep 63), (sig 63).keep, (sig 63).ord⟩
noncomputable def c63 : Code := Try.f63.body.getD .skip
def ST63 : List (Nat × (St → Cont (List DV × List (List D)) → Rs)) := []
theorem r63 : ∀ vs, v63 vs = bodyK C63 (lkS ST63) Try.f63 (sig 63) c63 (fillAs A63 0 vs) := fun vs => by kernel_rfl
theorem ok63 : ∀ xs q, opt (g63 xs) = some q → evalBody Try.prog sig (Gd G dep (dep 63)) KK 63 xs = some q := fun xs q h => body_ok Try.func63 (c := c63) rfl A63 v63 (sums_of (C := C63) (t := ST63) trivial) r63 (opt_gOf h)
noncomputable def C18 : Ctx := ⟨Try.prog, sig, Gd G dep (dep 18), (sig 18).keep, (sig 18).ord⟩
noncomputable def c18 : Code := Try.f18.body.getD .skip
def ST18 : List (Nat × (St → Cont (List DV × List (List D)) → Rs)) := []
theorem r18 : ∀ vs, v18 vs = bodyK C18 (lkS ST18) Try.f18 (sig 18) c18 (fillAs A18 0 vs) := fun vs => by kernel_rfl
theorem ok18 : ∀ xs q, opt (g18 xs) = some q → evalBody Try.prog sig (Gd G dep (dep 18)) KK 18 xs = some q := fun xs q h => body_ok Try.func18 (c := c18) rfl A18 v18 (sums_of (C := C18) (t := ST18) trivial) r18 (opt_gOf h)
noncomputable def C3 : Ctx := ⟨Try.prog, sig, Gd G dep (dep 3), (sig 3).keep, (sig 3).ord⟩
noncomputable def c3 : Code := Try.f3.body.getD .skip
def ST3 : List (Nat × (St → Cont (List DV × List (List D)) → Rs)) := []
theorem r3 : ∀ vs, v3 vs = bodyK C3 (lkS ST3) Try.f3 (sig 3) c3 (fillAs A3 0 vs) := fun vs => by kernel_rfl
theorem ok3 : ∀ xs q, opt (g3 xs) = some q → evalBody Try.prog sig (Gd G dep (dep 3)) KK 3 xs = some q := fun xs q h => body_ok Try.func3 (c := c3) rfl A3 v3 (sums_of (C := C3) (t := ST3) trivial) r3 (opt_gOf h)
theorem fn_ok : ∀ f ∈ [23, 15, 25, 17, 60, 61, 16, 62, 63, 18, 3], FnOk Try.prog sig f := fun f h => fnOk_of (List.all_eq_true.1 (show [23, 15, 25, 17, 60, 61, 16, 62, 63, 18, 3].all (fnOkB Try.prog sig) = true by kernel_rfl) f h)
theorem all_ok : AllG (fun f xs q => FnOk Try.prog sig f ∧ evalBody Try.prog sig (Gd G dep (dep f)) KK f xs = some q) gT :=
  ⟨fun xs q h => ⟨fn_ok 23 (by simp), ok23 xs q h⟩, fun xs q h => ⟨fn_ok 15 (by simp), ok15 xs q h⟩, fun xs q h => ⟨fn_ok 25 (by simp), ok25 xs q h⟩, fun xs q h => ⟨fn_ok 17 (by simp), ok17 xs q h⟩, fun xs q h => ⟨fn_ok 60 (by simp), ok60 xs q h⟩, fun xs q h => ⟨fn_ok 61 (by simp), ok61 xs q h⟩, fun xs q h => ⟨fn_ok 16 (by simp), ok16 xs q h⟩, fun xs q h => ⟨fn_ok 62 (by simp), ok62 xs q h⟩, fun xs q h => ⟨fn_ok 63 (by simp), ok63 xs q h⟩, fun xs q h => ⟨fn_ok 18 (by simp), ok18 xs q h⟩, fun xs q h => ⟨fn_ok 3 (by simp), ok3 xs q h⟩, trivial⟩
theorem G_ok (f : Nat) : SpecOk Try.prog (sig f) (fun xs => opt (G f xs)) f := G_spec (by kernel_rfl) (allG_of all_ok) f
end
end Go.Den.L3
