/- The functions' table, and that each is what its twin says. Printed by tw.py. -/
import Derived.Test.YtkokejemgekfaaaL5Tw
import Derived.Test.YtkokejemgekfaaaProg
import Derived.KernelRfl
set_option linter.unusedVariables false
namespace Go.Den.L5
open Go Go.Proofs
noncomputable section
set_option maxRecDepth 100000
def sg23 : Sig := ⟨[.bor, .bor], .sc [.one (.i .i64 0)], [0, 1, 2, 4, 11, 18, 25], []⟩
def sg19 : Sig := ⟨[.bor, .bor], .sc [.one (.i .i64 0)], [0, 1, 2, 4, 10], []⟩
def sg25 : Sig := ⟨[.bor], .sc [.agg [.i .i64 0, .s ⟨#[]⟩, .s ⟨#[]⟩, .i .i64 0, .i .i64 0, .s ⟨#[]⟩]], [0, 1, 2, 3], []⟩
def sg21 : Sig := ⟨[.bor], .sc [.agg [.i .i64 0, .i .i64 0, .i .i64 0, .b false, .i .i64 0, .s ⟨#[]⟩, .s ⟨#[]⟩, .i .i64 0, .i .i64 0, .s ⟨#[]⟩, .i .i64 0]], [0, 1, 2, 3], []⟩
def sg64 : Sig := ⟨[.bor], .sc [.one (.b false)], [0, 2], []⟩
def sg60 : Sig := ⟨[.bor, .bor, .bor], .sc [.one (.b false)], [0, 1, 2, 6], []⟩
def sg61 : Sig := ⟨[.bor], .sc [.one (.b false)], [0, 1, 2, 36, 54], []⟩
def sg20 : Sig := ⟨[.bor], .sc [.one (.b false)], [0, 1, 2, 24, 26], []⟩
def sg24 : Sig := ⟨[.bor, .bor, .bor], .sc [.agg [.i .i64 0, .i .i64 0, .i .i64 0, .b false, .i .i64 0, .s ⟨#[]⟩, .s ⟨#[]⟩, .i .i64 0, .i .i64 0, .s ⟨#[]⟩, .i .i64 0], .one (.b false)], [0, 1, 2, 3, 4, 6, 7, 10, 28], []⟩
def sg62 : Sig := ⟨[.bor, .bor, .bor], .sc [.one (.b false)], [0, 1, 2, 6], []⟩
def sg63 : Sig := ⟨[.bor], .sc [.one (.b false)], [0, 1, 2, 3, 4, 41], []⟩
def sg22 : Sig := ⟨[.bor], .sc [.one (.b false)], [0, 1, 2, 24, 26], []⟩
def sg26 : Sig := ⟨[.bor, .bor, .bor], .sc [.agg [.i .i64 0, .i .i64 0, .i .i64 0, .b false, .i .i64 0, .s ⟨#[]⟩, .s ⟨#[]⟩, .i .i64 0, .i .i64 0, .s ⟨#[]⟩, .i .i64 0], .one (.b false)], [0, 1, 2, 3, 4, 6, 7, 10, 28], []⟩
def sg65 : Sig := ⟨[.bor, .bor], .sc [.one (.b false)], [0, 1, 2, 3, 4, 9, 14, 19, 24, 29, 34], []⟩
def sg27 : Sig := ⟨[.bor, .bor], .sc [.one (.b false)], [0, 1, 2, 3, 4, 9, 14, 19, 24, 30, 35], []⟩
def sg5 : Sig := ⟨[.bor, .bor, .bor], .sc [.one (.b false)], [0, 1, 2, 3, 4, 6, 7, 8, 9, 10, 11, 16, 21, 48], [(8, [(9, 2, []), (0, 0, []), (1, 0, []), (2, 0, []), (3, 0, []), (4, 0, []), (5, 0, []), (6, 0, []), (7, 0, []), (8, 0, []), (10, 1, [8]), (11, 0, [])]), (9, [(9, 2, []), (0, 0, []), (1, 0, []), (2, 0, []), (3, 0, []), (4, 0, []), (5, 0, []), (6, 0, []), (7, 0, []), (8, 0, []), (10, 1, [8]), (11, 0, [])])]⟩
def sig : Nat → Sig := lkF ⟨[], .fresh [], [], []⟩ [(23, sg23), (19, sg19), (25, sg25), (21, sg21), (64, sg64), (60, sg60), (61, sg61), (20, sg20), (24, sg24), (62, sg62), (63, sg63), (22, sg22), (26, sg26), (65, sg65), (27, sg27), (5, sg5)]
def dep : Nat → Nat := lkF 0 [(23, 1), (19, 2), (25, 1), (21, 2), (64, 1), (60, 1), (61, 2), (20, 3), (24, 4), (62, 1), (63, 2), (22, 3), (26, 4), (65, 1), (27, 2), (5, 5)]
def gT : List (Nat × (List DV → Bool × List DV × List (List D))) := [(23, g23), (19, g19), (25, g25), (21, g21), (64, g64), (60, g60), (61, g61), (20, g20), (24, g24), (62, g62), (63, g63), (22, g22), (26, g26), (65, g65), (27, g27), (5, g5)]
def G : Nat → List DV → Bool × List DV × List (List D) := lkF (fun _ => (false, [], [])) gT
noncomputable def C23 : Ctx := ⟨Try.prog, sig, Gd G dep (dep 23), (sig 23).keep, (sig 23).ord⟩
noncomputable def c23 : Code := Try.f23.body.getD .skip
def ST23 : List (Nat × (St → Cont (List DV × List (List D)) → Rs)) := []
theorem r23 : ∀ vs, v23 vs = bodyK C23 (lkS ST23) Try.f23 (sig 23) c23 (fillAs A23 0 vs) := fun vs => by kernel_rfl
theorem ok23 : ∀ xs q, opt (g23 xs) = some q → evalBody Try.prog sig (Gd G dep (dep 23)) KK 23 xs = some q := fun xs q h => body_ok Try.func23 (c := c23) rfl A23 v23 (sums_of (C := C23) (t := ST23) trivial) r23 (opt_gOf h)
noncomputable def C19 : Ctx := ⟨Try.prog, sig, Gd G dep (dep 19), (sig 19).keep, (sig 19).ord⟩
noncomputable def c19 : Code := Try.f19.body.getD .skip
def ST19 : List (Nat × (St → Cont (List DV × List (List D)) → Rs)) := []
theorem r19 : ∀ vs, v19 vs = bodyK C19 (lkS ST19) Try.f19 (sig 19) c19 (fillAs A19 0 vs) := fun vs => by kernel_rfl
theorem ok19 : ∀ xs q, opt (g19 xs) = some q → evalBody Try.prog sig (Gd G dep (dep 19)) KK 19 xs = some q := fun xs q h => body_ok Try.func19 (c := c19) rfl A19 v19 (sums_of (C := C19) (t := ST19) trivial) r19 (opt_gOf h)
noncomputable def C25 : Ctx := ⟨Try.prog, sig, Gd G dep (dep 25), (sig 25).keep, (sig 25).ord⟩
noncomputable def c25 : Code := Try.f25.body.getD .skip
def ST25 : List (Nat × (St → Cont (List DV × List (List D)) → Rs)) := []
theorem r25 : ∀ vs, v25 vs = bodyK C25 (lkS ST25) Try.f25 (sig 25) c25 (fillAs A25 0 vs) := fun vs => by kernel_rfl
theorem ok25 : ∀ xs q, opt (g25 xs) = some q → evalBody Try.prog sig (Gd G dep (dep 25)) KK 25 xs = some q := fun xs q h => body_ok Try.func25 (c := c25) rfl A25 v25 (sums_of (C := C25) (t := ST25) trivial) r25 (opt_gOf h)
noncomputable def C21 : Ctx := ⟨Try.prog, sig, Gd G dep (dep 21), (sig 21).keep, (sig 21).ord⟩
noncomputable def c21 : Code := Try.f21.body.getD .skip
def ST21 : List (Nat × (St → Cont (List DV × List (List D)) → Rs)) := []
theorem r21 : ∀ vs, v21 vs = bodyK C21 (lkS ST21) Try.f21 (sig 21) c21 (fillAs A21 0 vs) := fun vs => by kernel_rfl
theorem ok21 : ∀ xs q, opt (g21 xs) = some q → evalBody Try.prog sig (Gd G dep (dep 21)) KK 21 xs = some q := fun xs q h => body_ok Try.func21 (c := c21) rfl A21 v21 (sums_of (C := C21) (t := ST21) trivial) r21 (opt_gOf h)
noncomputable def C64 : Ctx := ⟨Try.prog, sig, Gd G dep (dep 64), (sig 64).keep, (sig 64).ord⟩
noncomputable def c64 : Code := Try.f64.body.getD .skip
def ST64 : List (Nat × (St → Cont (List DV × List (List D)) → Rs)) := []
theorem r64 : ∀ vs, v64 vs = bodyK C64 (lkS ST64) Try.f64 (sig 64) c64 (fillAs A64 0 vs) := fun vs => by kernel_rfl
theorem ok64 : ∀ xs q, opt (g64 xs) = some q → evalBody Try.prog sig (Gd G dep (dep 64)) KK 64 xs = some q := fun xs q h => body_ok Try.func64 (c := c64) rfl A64 v64 (sums_of (C := C64) (t := ST64) trivial) r64 (opt_gOf h)
noncomputable def C60 : Ctx := ⟨Try.prog, sig, Gd G dep (dep 60), (sig 60).keep, (sig 60).ord⟩
noncomputable def c60 : Code := Try.f60.body.getD .skip
def ST60 : List (Nat × (St → Cont (List DV × List (List D)) → Rs)) := []
theorem r60 : ∀ vs, v60 vs = bodyK C60 (lkS ST60) Try.f60 (sig 60) c60 (fillAs A60 0 vs) := fun vs => by kernel_rfl
theorem ok60 : ∀ xs q, opt (g60 xs) = some q → evalBody Try.prog sig (Gd G dep (dep 60)) KK 60 xs = some q := fun xs q h => body_ok Try.func60 (c := c60) rfl A60 v60 (sums_of (C := C60) (t := ST60) trivial) r60 (opt_gOf h)
noncomputable def C61 : Ctx := ⟨Try.prog, sig, Gd G dep (dep 61), (sig 61).keep, (sig 61).ord⟩
noncomputable def c61 : Code := Try.f61.body.getD .skip
def ST61 : List (Nat × (St → Cont (List DV × List (List D)) → Rs)) := []
theorem r61 : ∀ vs, v61 vs = bodyK C61 (lkS ST61) Try.f61 (sig 61) c61 (fillAs A61 0 vs) := fun vs => by kernel_rfl
theorem ok61 : ∀ xs q, opt (g61 xs) = some q → evalBody Try.prog sig (Gd G dep (dep 61)) KK 61 xs = some q := fun xs q h => body_ok Try.func61 (c := c61) rfl A61 v61 (sums_of (C := C61) (t := ST61) trivial) r61 (opt_gOf h)
noncomputable def C20 : Ctx := ⟨Try.prog, sig, Gd G dep (dep 20), (sig 20).keep, (sig 20).ord⟩
noncomputable def c20 : Code := Try.f20.body.getD .skip
def ST20 : List (Nat × (St → Cont (List DV × List (List D)) → Rs)) := []
theorem r20 : ∀ vs, v20 vs = bodyK C20 (lkS ST20) Try.f20 (sig 20) c20 (fillAs A20 0 vs) := fun vs => by kernel_rfl
theorem ok20 : ∀ xs q, opt (g20 xs) = some q → evalBody Try.prog sig (Gd G dep (dep 20)) KK 20 xs = some q := fun xs q h => body_ok Try.func20 (c := c20) rfl A20 v20 (sums_of (C := C20) (t := ST20) trivial) r20 (opt_gOf h)
noncomputable def C24 : Ctx := ⟨Try.prog, sig, Gd G dep (dep 24), (sig 24).keep, (sig 24).ord⟩
noncomputable def c24 : Code := Try.f24.body.getD .skip
def ST24 : List (Nat × (St → Cont (List DV × List (List D)) → Rs)) := []
theorem r24 : ∀ vs, v24 vs = bodyK C24 (lkS ST24) Try.f24 (sig 24) c24 (fillAs A24 0 vs) := fun vs => by kernel_rfl
theorem ok24 : ∀ xs q, opt (g24 xs) = some q → evalBody Try.prog sig (Gd G dep (dep 24)) KK 24 xs = some q := fun xs q h => body_ok Try.func24 (c := c24) rfl A24 v24 (sums_of (C := C24) (t := ST24) trivial) r24 (opt_gOf h)
noncomputable def C62 : Ctx := ⟨Try.prog, sig, Gd G dep (dep 62), (sig 62).keep, (sig 62).ord⟩
noncomputable def c62 : Code := Try.f62.body.getD .skip
def ST62 : List (Nat × (St → Cont (List DV × List (List D)) → Rs)) := []
theorem r62 : ∀ vs, v62 vs = bodyK C62 (lkS ST62) Try.f62 (sig 62) c62 (fillAs A62 0 vs) := fun vs => by kernel_rfl
theorem ok62 : ∀ xs q, opt (g62 xs) = some q → evalBody Try.prog sig (Gd G dep (dep 62)) KK 62 xs = some q := fun xs q h => body_ok Try.func62 (c := c62) rfl A62 v62 (sums_of (C := C62) (t := ST62) trivial) r62 (opt_gOf h)
noncomputable def C63 : Ctx := ⟨Try.prog, sig, Gd G dep (dep 63), (sig 63).keep, (sig 63).ord⟩
noncomputable def c63 : Code := Try.f63.body.getD .skip
def ST63 : List (Nat × (St → Cont (List DV × List (List D)) → Rs)) := []
theorem r63 : ∀ vs, v63 vs = bodyK C63 (lkS ST63) Try.f63 (sig 63) c63 (fillAs A63 0 vs) := fun vs => by kernel_rfl
theorem ok63 : ∀ xs q, opt (g63 xs) = some q → evalBody Try.prog sig (Gd G dep (dep 63)) KK 63 xs = some q := fun xs q h => body_ok Try.func63 (c := c63) rfl A63 v63 (sums_of (C := C63) (t := ST63) trivial) r63 (opt_gOf h)
noncomputable def C22 : Ctx := ⟨Try.prog, sig, Gd G dep (dep 22), (sig 22).keep, (sig 22).ord⟩
noncomputable def c22 : Code := Try.f22.body.getD .skip
def ST22 : List (Nat × (St → Cont (List DV × List (List D)) → Rs)) := []
theorem r22 : ∀ vs, v22 vs = bodyK C22 (lkS ST22) Try.f22 (sig 22) c22 (fillAs A22 0 vs) := fun vs => by kernel_rfl
theorem ok22 : ∀ xs q, opt (g22 xs) = some q → evalBody Try.prog sig (Gd G dep (dep 22)) KK 22 xs = some q := fun xs q h => body_ok Try.func22 (c := c22) rfl A22 v22 (sums_of (C := C22) (t := ST22) trivial) r22 (opt_gOf h)
noncomputable def C26 : Ctx := ⟨Try.prog, sig, Gd G dep (dep 26), (sig 26).keep, (sig 26).ord⟩
noncomputable def c26 : Code := Try.f26.body.getD .skip
def ST26 : List (Nat × (St → Cont (List DV × List (List D)) → Rs)) := []
theorem r26 : ∀ vs, v26 vs = bodyK C26 (lkS ST26) Try.f26 (sig 26) c26 (fillAs A26 0 vs) := fun vs => by kernel_rfl
theorem ok26 : ∀ xs q, opt (g26 xs) = some q → evalBody Try.prog sig (Gd G dep (dep 26)) KK 26 xs = some q := fun xs q h => body_ok Try.func26 (c := c26) rfl A26 v26 (sums_of (C := C26) (t := ST26) trivial) r26 (opt_gOf h)
noncomputable def C65 : Ctx := ⟨Try.prog, sig, Gd G dep (dep 65), (sig 65).keep, (sig 65).ord⟩
noncomputable def c65 : Code := Try.f65.body.getD .skip
def ST65 : List (Nat × (St → Cont (List DV × List (List D)) → Rs)) := []
theorem r65 : ∀ vs, v65 vs = bodyK C65 (lkS ST65) Try.f65 (sig 65) c65 (fillAs A65 0 vs) := fun vs => by kernel_rfl
theorem ok65 : ∀ xs q, opt (g65 xs) = some q → evalBody Try.prog sig (Gd G dep (dep 65)) KK 65 xs = some q := fun xs q h => body_ok Try.func65 (c := c65) rfl A65 v65 (sums_of (C := C65) (t := ST65) trivial) r65 (opt_gOf h)
noncomputable def C27 : Ctx := ⟨Try.prog, sig, Gd G dep (dep 27), (sig 27).keep, (sig 27).ord⟩
noncomputable def c27 : Code := Try.f27.body.getD .skip
def ST27 : List (Nat × (St → Cont (List DV × List (List D)) → Rs)) := []
theorem r27 : ∀ vs, v27 vs = bodyK C27 (lkS ST27) Try.f27 (sig 27) c27 (fillAs A27 0 vs) := fun vs => by kernel_rfl
theorem ok27 : ∀ xs q, opt (g27 xs) = some q → evalBody Try.prog sig (Gd G dep (dep 27)) KK 27 xs = some q := fun xs q h => body_ok Try.func27 (c := c27) rfl A27 v27 (sums_of (C := C27) (t := ST27) trivial) r27 (opt_gOf h)
noncomputable def C5 : Ctx := ⟨Try.prog, sig, Gd G dep (dep 5), (sig 5).keep, (sig 5).ord⟩
noncomputable def c5 : Code := Try.f5.body.getD .skip
def ST5 : List (Nat × (St → Cont (List DV × List (List D)) → Rs)) := []
theorem r5 : ∀ vs, v5 vs = bodyK C5 (lkS ST5) Try.f5 (sig 5) c5 (fillAs A5 0 vs) := fun vs => by kernel_rfl
theorem ok5 : ∀ xs q, opt (g5 xs) = some q → evalBody Try.prog sig (Gd G dep (dep 5)) KK 5 xs = some q := fun xs q h => body_ok Try.func5 (c := c5) rfl A5 v5 (sums_of (C := C5) (t := ST5) trivial) r5 (opt_gOf h)
theorem fn_ok : ∀ f ∈ [23, 19, 25, 21, 64, 60, 61, 20, 24, 62, 63, 22, 26, 65, 27, 5], FnOk Try.prog sig f := fun f h => fnOk_of (List.all_eq_true.1 (show [23, 19, 25, 21, 64, 60, 61, 20, 24, 62, 63, 22, 26, 65, 27, 5].all (fnOkB Try.prog sig) = true by kernel_rfl) f h)
theorem all_ok : AllG (fun f xs q => FnOk Try.prog sig f ∧ evalBody Try.prog sig (Gd G dep (dep f)) KK f xs = some q) gT :=
  ⟨fun xs q h => ⟨fn_ok 23 (by simp), ok23 xs q h⟩, fun xs q h => ⟨fn_ok 19 (by simp), ok19 xs q h⟩, fun xs q h => ⟨fn_ok 25 (by simp), ok25 xs q h⟩, fun xs q h => ⟨fn_ok 21 (by simp), ok21 xs q h⟩, fun xs q h => ⟨fn_ok 64 (by simp), ok64 xs q h⟩, fun xs q h => ⟨fn_ok 60 (by simp), ok60 xs q h⟩, fun xs q h => ⟨fn_ok 61 (by simp), ok61 xs q h⟩, fun xs q h => ⟨fn_ok 20 (by simp), ok20 xs q h⟩, fun xs q h => ⟨fn_ok 24 (by simp), ok24 xs q h⟩, fun xs q h => ⟨fn_ok 62 (by simp), ok62 xs q h⟩, fun xs q h => ⟨fn_ok 63 (by simp), ok63 xs q h⟩, fun xs q h => ⟨fn_ok 22 (by simp), ok22 xs q h⟩, fun xs q h => ⟨fn_ok 26 (by simp), ok26 xs q h⟩, fun xs q h => ⟨fn_ok 65 (by simp), ok65 xs q h⟩, fun xs q h => ⟨fn_ok 27 (by simp), ok27 xs q h⟩, fun xs q h => ⟨fn_ok 5 (by simp), ok5 xs q h⟩, trivial⟩
theorem G_ok (f : Nat) : SpecOk Try.prog (sig f) (fun xs => opt (G f xs)) f := G_spec (by kernel_rfl) (allG_of all_ok) f
end
end Go.Den.L5
