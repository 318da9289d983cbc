/- The functions' table, and that each is what its twin says. Printed by tw.py. -/
import Derived.Test.YtkokejemgekfaaaL10Tw
import Derived.Test.YtkokejemgekfaaaProg
import Derived.KernelRfl
set_option linter.unusedVariables false
namespace Go.Den.L10
open Go Go.Proofs
noncomputable section
set_option maxRecDepth 100000
def sg23 : Sig := ⟨[.bor, .bor], .sc [.one (.i .i64 0)], [0, 1, 2, 4, 11, 18, 25], []⟩
def sg19 : Sig := ⟨[.bor, .bor], .sc [.one (.i .i64 0)], [0, 1, 2, 4, 10], []⟩
def sg43 : Sig := ⟨[.bor, .bor], .sc [.one (.i .i64 0)], [0, 1, 2, 4, 11], []⟩
def sg25 : Sig := ⟨[.bor], .sc [.agg [.i .i64 0, .s ⟨#[]⟩, .s ⟨#[]⟩, .i .i64 0, .i .i64 0, .s ⟨#[]⟩]], [0, 1, 2, 3], []⟩
def sg21 : Sig := ⟨[.bor], .sc [.agg [.i .i64 0, .i .i64 0, .i .i64 0, .b false, .i .i64 0, .s ⟨#[]⟩, .s ⟨#[]⟩, .i .i64 0, .i .i64 0, .s ⟨#[]⟩, .i .i64 0]], [0, 1, 2, 3], []⟩
def sg45 : Sig := ⟨[.bor], .sc [.agg [.i .i64 0, .i .i64 0, .i .i64 0, .b false, .i .i64 0, .s ⟨#[]⟩]], [0, 1, 2, 3], []⟩
def sg64 : Sig := ⟨[.bor], .sc [.one (.b false)], [0, 2], []⟩
def sg60 : Sig := ⟨[.bor, .bor, .bor], .sc [.one (.b false)], [0, 1, 2, 6], []⟩
def sg61 : Sig := ⟨[.bor], .sc [.one (.b false)], [0, 1, 2, 36, 54], []⟩
def sg20 : Sig := ⟨[.bor], .sc [.one (.b false)], [0, 1, 2, 24, 26], []⟩
def sg89 : Sig := ⟨[.bor], .sc [.one (.s ⟨#[]⟩)], [0, 2, 3, 6, 9], []⟩
def sg84 : Sig := ⟨[.bor], .sc [.one (.i .i64 0), .one (.i .i64 0)], [0, 2, 3, 4, 5, 6, 14, 20, 36], [(9, [(0, 0, []), (1, 0, []), (2, 0, []), (3, 0, []), (4, 0, []), (5, 0, [])])]⟩
def sg92 : Sig := ⟨[.bor, .bor, .bor], .fresh [[some (3, 1)], [none]], [0, 1, 2, 6, 7, 8, 9, 10, 11, 15, 25, 35], []⟩
def sg125 : Sig := ⟨[.bor], .sc [.one (.b false)], [0, 1, 2], []⟩
def sg106 : Sig := ⟨[.bor], .sc [.one (.s ⟨#[]⟩)], [0, 1, 2, 5], [(3, [(0, 0, []), (1, 0, []), (2, 0, []), (3, 0, []), (4, 0, []), (5, 0, []), (6, 0, [])])]⟩
def sg85 : Sig := ⟨[.bor], .sc [.agg [.i .i64 0, .s ⟨#[]⟩], .one (.b false)], [0, 2, 3, 4, 5, 6, 13, 25], [(4, [(7, 2, []), (0, 0, []), (1, 0, []), (2, 0, []), (3, 0, []), (4, 0, []), (5, 0, []), (6, 0, []), (8, 1, [])])]⟩
def sg44 : Sig := ⟨[.bor, .bor, .bor], .sc [.agg [.i .i64 0, .i .i64 0, .i .i64 0, .b false, .i .i64 0, .s ⟨#[]⟩, .s ⟨#[]⟩, .i .i64 0, .i .i64 0, .s ⟨#[]⟩, .i .i64 0], .agg [.i .i64 0, .i .i64 0, .i .i64 0, .i .i64 0, .s ⟨#[]⟩, .s ⟨#[]⟩, .i .i64 0, .i .i64 0, .s ⟨#[]⟩, .i .i64 0, .i .i64 0, .s ⟨#[]⟩, .i .i64 0, .i .i64 0], .one (.b false)], [0, 1, 2, 3, 4, 6, 7, 8, 9, 10, 11, 12, 15, 78], [(7, [(0, 0, []), (1, 0, []), (2, 0, []), (3, 0, []), (4, 0, []), (5, 0, []), (6, 0, []), (7, 0, []), (8, 0, []), (9, 0, []), (10, 0, []), (11, 0, []), (12, 0, []), (13, 0, []), (14, 0, []), (15, 0, []), (16, 0, []), (17, 0, []), (18, 0, []), (19, 0, []), (20, 0, []), (21, 1, [7, 8, 9, 10, 11, 12, 13, 14, 15, 16, 17, 18, 19, 20]), (22, 1, []), (23, 0, [])])]⟩
def sg62 : Sig := ⟨[.bor, .bor, .bor], .sc [.one (.b false)], [0, 1, 2, 6], []⟩
def sg63 : Sig := ⟨[.bor], .sc [.one (.b false)], [0, 1, 2, 3, 4, 41], []⟩
def sg22 : Sig := ⟨[.bor], .sc [.one (.b false)], [0, 1, 2, 24, 26], []⟩
def sg86 : Sig := ⟨[.bor], .sc [.one (.i .i64 0), .one (.i .i64 0)], [0, 2, 3, 4, 5, 6, 14, 29, 35], []⟩
def sg118 : Sig := ⟨[.bor], .sc [.one (.b false)], [0, 1, 2], []⟩
def sg87 : Sig := ⟨[.bor], .sc [.agg [.i .i64 0, .s ⟨#[]⟩], .one (.b false)], [0, 2, 3, 4, 5, 6, 23], []⟩
def sg46 : Sig := ⟨[.bor, .bor, .bor], .sc [.agg [.i .i64 0, .i .i64 0, .i .i64 0, .b false, .i .i64 0, .s ⟨#[]⟩, .s ⟨#[]⟩, .i .i64 0, .i .i64 0, .s ⟨#[]⟩, .i .i64 0], .agg [.i .i64 0, .i .i64 0, .i .i64 0, .i .i64 0, .s ⟨#[]⟩, .s ⟨#[]⟩, .i .i64 0, .i .i64 0, .s ⟨#[]⟩, .i .i64 0, .i .i64 0, .s ⟨#[]⟩, .i .i64 0, .i .i64 0], .one (.b false)], [0, 1, 2, 3, 4, 6, 7, 8, 9, 10, 11, 12, 13, 16, 79], [(11, [(0, 0, []), (1, 0, []), (2, 1, [1]), (3, 1, []), (4, 0, [])])]⟩
def sg65 : Sig := ⟨[.bor, .bor], .sc [.one (.b false)], [0, 1, 2, 3, 4, 9, 14, 19, 24, 29, 34], []⟩
def sg27 : Sig := ⟨[.bor, .bor], .sc [.one (.b false)], [0, 1, 2, 3, 4, 9, 14, 19, 24, 30, 35], []⟩
def sg88 : Sig := ⟨[.bor, .bor], .sc [.one (.b false)], [0, 1, 2, 3, 4, 9, 14], []⟩
def sg47 : Sig := ⟨[.bor, .bor], .sc [.one (.b false)], [0, 1, 2, 3, 4, 9, 14, 19, 25, 30, 36, 41, 46], []⟩
def sg10 : Sig := ⟨[.bor, .bor, .bor], .sc [.one (.b false)], [0, 1, 2, 3, 4, 6, 7, 8, 9, 10, 11, 12, 13, 18, 23, 58], [(8, [(10, 2, []), (11, 2, []), (0, 0, []), (1, 0, []), (2, 0, []), (3, 0, []), (4, 0, []), (5, 0, []), (6, 0, []), (7, 0, []), (8, 0, []), (9, 0, []), (12, 1, [8, 9]), (13, 1, [9]), (14, 0, [])]), (9, [(10, 2, []), (11, 2, []), (0, 0, []), (1, 0, []), (2, 0, []), (3, 0, []), (4, 0, []), (5, 0, []), (6, 0, []), (7, 0, []), (8, 0, []), (9, 0, []), (12, 1, [8, 9]), (13, 1, [9]), (14, 0, [])])]⟩
def sig : Nat → Sig := lkF ⟨[], .fresh [], [], []⟩ [(23, sg23), (19, sg19), (43, sg43), (25, sg25), (21, sg21), (45, sg45), (64, sg64), (60, sg60), (61, sg61), (20, sg20), (89, sg89), (84, sg84), (92, sg92), (125, sg125), (106, sg106), (85, sg85), (44, sg44), (62, sg62), (63, sg63), (22, sg22), (86, sg86), (118, sg118), (87, sg87), (46, sg46), (65, sg65), (27, sg27), (88, sg88), (47, sg47), (10, sg10)]
def dep : Nat → Nat := lkF 0 [(23, 1), (19, 2), (43, 1), (25, 1), (21, 2), (45, 1), (64, 1), (60, 1), (61, 2), (20, 3), (89, 2), (84, 3), (92, 4), (125, 2), (106, 3), (85, 5), (44, 6), (62, 1), (63, 2), (22, 3), (86, 1), (118, 2), (87, 3), (46, 4), (65, 1), (27, 2), (88, 1), (47, 2), (10, 7)]
def gT : List (Nat × (List DV → Bool × List DV × List (List D))) := [(23, g23), (19, g19), (43, g43), (25, g25), (21, g21), (45, g45), (64, g64), (60, g60), (61, g61), (20, g20), (89, g89), (84, g84), (92, g92), (125, g125), (106, g106), (85, g85), (44, g44), (62, g62), (63, g63), (22, g22), (86, g86), (118, g118), (87, g87), (46, g46), (65, g65), (27, g27), (88, g88), (47, g47), (10, g10)]
def G : Nat → List DV → Bool × List DV × List (List D) := lkF (fun _ => (false, [], [])) gT
noncomputable def C23 : Ctx := ⟨Try.prog, sig, Gd G dep (dep 23), (sig 23).keep, (sig 23).ord⟩
noncomputable def c23 : Code := Try.f23.body.getD .skip
def ST23 : List (Nat × (St → Cont (List DV × List (List D)) → Rs)) := []
theorem r23 : ∀ vs, v23 vs = bodyK C23 (lkS ST23) Try.f23 (sig 23) c23 (fillAs A23 0 vs) := fun vs => by kernel_rfl
theorem ok23 : ∀ xs q, opt (g23 xs) = some q → evalBody Try.prog sig (Gd G dep (dep 23)) KK 23 xs = some q := fun xs q h => body_ok Try.func23 (c := c23) rfl A23 v23 (sums_of (C := C23) (t := ST23) trivial) r23 (opt_gOf h)
noncomputable def C19 : Ctx := ⟨Try.prog, sig, Gd G dep (dep 19), (sig 19).keep, (sig 19).ord⟩
noncomputable def c19 : Code := Try.f19.body.getD .skip
def ST19 : List (Nat × (St → Cont (List DV × List (List D)) → Rs)) := []
theorem r19 : ∀ vs, v19 vs = bodyK C19 (lkS ST19) Try.f19 (sig 19) c19 (fillAs A19 0 vs) := fun vs => by kernel_rfl
theorem ok19 : ∀ xs q, opt (g19 xs) = some q → evalBody Try.prog sig (Gd G dep (dep 19)) KK 19 xs = some q := fun xs q h => body_ok Try.func19 (c := c19) rfl A19 v19 (sums_of (C := C19) (t := ST19) trivial) r19 (opt_gOf h)
noncomputable def C43 : Ctx := ⟨Try.prog, sig, Gd G dep (dep 43), (sig 43).keep, (sig 43).ord⟩
noncomputable def c43 : Code := Try.f43.body.getD .skip
def ST43 : List (Nat × (St → Cont (List DV × List (List D)) → Rs)) := []
theorem r43 : ∀ vs, v43 vs = bodyK C43 (lkS ST43) Try.f43 (sig 43) c43 (fillAs A43 0 vs) := fun vs => by kernel_rfl
theorem ok43 : ∀ xs q, opt (g43 xs) = some q → evalBody Try.prog sig (Gd G dep (dep 43)) KK 43 xs = some q := fun xs q h => body_ok Try.func43 (c := c43) rfl A43 v43 (sums_of (C := C43) (t := ST43) trivial) r43 (opt_gOf h)
noncomputable def C25 : Ctx := ⟨Try.prog, sig, Gd G dep (dep 25), (sig 25).keep, (sig 25).ord⟩
noncomputable def c25 : Code := Try.f25.body.getD .skip
def ST25 : List (Nat × (St → Cont (List DV × List (List D)) → Rs)) := []
theorem r25 : ∀ vs, v25 vs = bodyK C25 (lkS ST25) Try.f25 (sig 25) c25 (fillAs A25 0 vs) := fun vs => by kernel_rfl
theorem ok25 : ∀ xs q, opt (g25 xs) = some q → evalBody Try.prog sig (Gd G dep (dep 25)) KK 25 xs = some q := fun xs q h => body_ok Try.func25 (c := c25) rfl A25 v25 (sums_of (C := C25) (t := ST25) trivial) r25 (opt_gOf h)
noncomputable def C21 : Ctx := ⟨Try.prog, sig, Gd G dep (dep 21), (sig 21).keep, (sig 21).ord⟩
noncomputable def c21 : Code := Try.f21.body.getD .skip
def ST21 : List (Nat × (St → Cont (List DV × List (List D)) → Rs)) := []
theorem r21 : ∀ vs, v21 vs = bodyK C21 (lkS ST21) Try.f21 (sig 21) c21 (fillAs A21 0 vs) := fun vs => by kernel_rfl
theorem ok21 : ∀ xs q, opt (g21 xs) = some q → evalBody Try.prog sig (Gd G dep (dep 21)) KK 21 xs = some q := fun xs q h => body_ok Try.func21 (c := c21) rfl A21 v21 (sums_of (C := C21) (t := ST21) trivial) r21 (opt_gOf h)
noncomputable def C45 : Ctx := ⟨Try.prog, sig, Gd G dep (dep 45), (sig 45).keep, (sig 45).ord⟩
noncomputable def c45 : Code := Try.f45.body.getD .skip
def ST45 : List (Nat × (St → Cont (List DV × List (List D)) → Rs)) := []
theorem r45 : ∀ vs, v45 vs = bodyK C45 (lkS ST45) Try.f45 (sig 45) c45 (fillAs A45 0 vs) := fun vs => by kernel_rfl
theorem ok45 : ∀ xs q, opt (g45 xs) = some q → evalBody Try.prog sig (Gd G dep (dep 45)) KK 45 xs = some q := fun xs q h => body_ok Try.func45 (c := c45) rfl A45 v45 (sums_of (C := C45) (t := ST45) trivial) r45 (opt_gOf h)
noncomputable def C64 : Ctx := ⟨Try.prog, sig, Gd G dep (dep 64), (sig 64).keep, (sig 64).ord⟩
noncomputable def c64 : Code := Try.f64.body.getD .skip
def ST64 : List (Nat × (St → Cont (List DV × List (List D)) → Rs)) := []
theorem r64 : ∀ vs, v64 vs = bodyK C64 (lkS ST64) Try.f64 (sig 64) c64 (fillAs A64 0 vs) := fun vs => by kernel_rfl
theorem ok64 : ∀ xs q, opt (g64 xs) = some q → evalBody Try.prog sig (Gd G dep (dep 64)) KK 64 xs = some q := fun xs q h => body_ok Try.func64 (c := c64) rfl A64 v64 (sums_of (C := C64) (t := ST64) trivial) r64 (opt_gOf h)
noncomputable def C60 : Ctx := ⟨Try.prog, sig, Gd G dep (dep 60), (sig 60).keep, (sig 60).ord⟩
noncomputable def c60 : Code := Try.f60.body.getD .skip
def ST60 : List (Nat × (St → Cont (List DV × List (List D)) → Rs)) := []
theorem r60 : ∀ vs, v60 vs = bodyK C60 (lkS ST60) Try.f60 (sig 60) c60 (fillAs A60 0 vs) := fun vs => by kernel_rfl
theorem ok60 : ∀ xs q, opt (g60 xs) = some q → evalBody Try.prog sig (Gd G dep (dep 60)) KK 60 xs = some q := fun xs q h => body_ok Try.func60 (c := c60) rfl A60 v60 (sums_of (C := C60) (t := ST60) trivial) r60 (opt_gOf h)
noncomputable def C61 : Ctx := ⟨Try.prog, sig, Gd G dep (dep 61), (sig 61).keep, (sig 61).ord⟩
noncomputable def c61 : Code := Try.f61.body.getD .skip
def ST61 : List (Nat × (St → Cont (List DV × List (List D)) → Rs)) := []
theorem r61 : ∀ vs, v61 vs = bodyK C61 (lkS ST61) Try.f61 (sig 61) c61 (fillAs A61 0 vs) := fun vs => by kernel_rfl
theorem ok61 : ∀ xs q, opt (g61 xs) = some q → evalBody Try.prog sig (Gd G dep (dep 61)) KK 61 xs = some q := fun xs q h => body_ok Try.func61 (c := c61) rfl A61 v61 (sums_of (C := C61) (t := ST61) trivial) r61 (opt_gOf h)
noncomputable def C20 : Ctx := ⟨Try.prog, sig, Gd G dep (dep 20), (sig 20).keep, (sig 20).ord⟩
noncomputable def c20 : Code := Try.f20.body.getD .skip
def ST20 : List (Nat × (St → Cont (List DV × List (List D)) → Rs)) := []
theorem r20 : ∀ vs, v20 vs = bodyK C20 (lkS ST20) Try.f20 (sig 20) c20 (fillAs A20 0 vs) := fun vs => by kernel_rfl
theorem ok20 : ∀ xs q, opt (g20 xs) = some q → evalBody Try.prog sig (Gd G dep (dep 20)) KK 20 xs = some q := fun xs q h => body_ok Try.func20 (c := c20) rfl A20 v20 (sums_of (C := C20) (t := ST20) trivial) r20 (opt_gOf h)
noncomputable def C89 : Ctx := ⟨Try.prog, sig, Gd G dep (dep 89), (sig 89).keep, (sig 89).ord⟩
noncomputable def c89 : Code := Try.f89.body.getD .skip
def T89o1 : TSt := ⟨[.d (.i .i64), .d (.s), .own 448, .d (.b), .any], [(448, .row 5 1)]⟩
def X89o1e1 : TSt := ⟨[.d (.i .i64), .d (.s), .own 448, .d (.b), .d (.b)], [(448, .row 5 1)]⟩
def L89o1 (m : Nat) (vs : List Vr) (K : Cont (List DV × List (List D))) : Rs := l89o1 (vS vs 1) (vB vs 2) (fun n16 b17 l18 => K (.exit 0) (fillS X89o1e1 [.i (n16), .s (vS vs 1), .b (vB vs 2), .b (b17), .l (l18)])) m (vI vs 0) (vV vs 3) (vL vs 4)
def ST89 : List (Nat × (St → Cont (List DV × List (List D)) → Rs)) := [(1, sumT T89o1 (L89o1 KK))]
noncomputable def b89o1 : Code := match nodeAt c89 1 with | some (.loop a) => a | _ => .skip
theorem q89o1 : ∀ m vs K, L89o1 (m + 1) vs K = denK C89 (lkS ST89) b89o1 2 (fillS T89o1 vs) (loopK T89o1 (L89o1 m) K) := fun m vs K => by kernel_rfl
theorem o89o1 : SumOk C89 KK (sumT T89o1 (L89o1 KK)) (.loop b89o1) := loop_ok T89o1 L89o1 (sums_of (t := ST89) ⟨fun _ _ h => absurd h (by decide), trivial⟩) (fun _ _ => rfl) q89o1
theorem r89 : ∀ vs, v89 vs = bodyK C89 (lkS ST89) Try.f89 (sig 89) c89 (fillAs A89 0 vs) := fun vs => by kernel_rfl
theorem ok89 : ∀ xs q, opt (g89 xs) = some q → evalBody Try.prog sig (Gd G dep (dep 89)) KK 89 xs = some q := fun xs q h => body_ok Try.func89 (c := c89) rfl A89 v89 (sums_of (C := C89) (t := ST89) ⟨sum_in (c' := .loop b89o1) (by kernel_rfl) o89o1, trivial⟩) r89 (opt_gOf h)
noncomputable def C84 : Ctx := ⟨Try.prog, sig, Gd G dep (dep 84), (sig 84).keep, (sig 84).ord⟩
noncomputable def c84 : Code := Try.f84.body.getD .skip
def T84o2 : TSt := ⟨[.d (.s), .d (.i .i64), .d (.i .i64), .d (.i .i64), .d (.i .i64), .d (.i .i64), .d (.b), .any, .any], []⟩
def X84o2e1 : TSt := ⟨[.d (.s), .d (.i .i64), .d (.i .i64), .d (.i .i64), .d (.i .i64), .d (.i .i64), .d (.b), .d (.b), .any], []⟩
def L84o2 (m : Nat) (vs : List Vr) (K : Cont (List DV × List (List D))) : Rs := l84o2 (vS vs 0) (vI vs 1) (vI vs 2) (vI vs 3) (vB vs 6) (fun n71 n72 b73 v74 => K (.exit 2) (fillS X84o2e1 [.s (vS vs 0), .i (vI vs 1), .i (vI vs 2), .i (vI vs 3), .i (n71), .i (n72), .b (vB vs 6), .b (b73), .v (v74)])) m (vI vs 4) (vI vs 5) (vV vs 7) (vV vs 8)
def T84o0 : TSt := ⟨[.d (.s), .d (.i .i64), .d (.i .i64), .d (.i .i64), .any, .any, .any, .any, .any], []⟩
def X84o0e1 : TSt := ⟨[.d (.s), .d (.i .i64), .d (.i .i64), .d (.i .i64), .d (.i .i64), .d (.i .i64), .d (.b), .d (.b), .d (.b)], []⟩
def X84o0e2 : TSt := ⟨[.d (.s), .d (.i .i64), .d (.i .i64), .d (.i .i64), .any, .any, .d (.b), .any, .any], []⟩
def L84o0 (m : Nat) (vs : List Vr) (K : Cont (List DV × List (List D))) : Rs := l84o0 (vS vs 0) (vI vs 1) (vI vs 2) (fun n88 n89 n90 b91 b92 b93 => K .ret (fillS X84o0e1 [.s (vS vs 0), .i (n88), .i (n89), .i (n89), .i (n88), .i (n90), .b (b91), .b (b92), .b (b93)])) (fun n94 v95 v96 b97 v98 v99 => K (.exit 0) (fillS X84o0e2 [.s (vS vs 0), .i (vI vs 1), .i (vI vs 2), .i (n94), .v (v95), .v (v96), .b (b97), .v (v98), .v (v99)])) m (vI vs 3) (vV vs 4) (vV vs 5) (vV vs 6) (vV vs 7) (vV vs 8)
def ST84 : List (Nat × (St → Cont (List DV × List (List D)) → Rs)) := [(2, sumT T84o2 (L84o2 KK)), (0, sumT T84o0 (L84o0 KK))]
noncomputable def b84o2 : Code := match nodeAt c84 2 with | some (.loop a) => a | _ => .skip
noncomputable def b84o0 : Code := match nodeAt c84 0 with | some (.loop a) => a | _ => .skip
theorem q84o2 : ∀ m vs K, L84o2 (m + 1) vs K = denK C84 (lkS ST84) b84o2 3 (fillS T84o2 vs) (loopK T84o2 (L84o2 m) K) := fun m vs K => by kernel_rfl
theorem o84o2 : SumOk C84 KK (sumT T84o2 (L84o2 KK)) (.loop b84o2) := loop_ok T84o2 L84o2 (sums_of (t := ST84) ⟨fun _ _ h => absurd h (by decide), fun _ _ h => absurd h (by decide), trivial⟩) (fun _ _ => rfl) q84o2
theorem q84o0 : ∀ m vs K, L84o0 (m + 1) vs K = denK C84 (lkS ST84) b84o0 1 (fillS T84o0 vs) (loopK T84o0 (L84o0 m) K) := fun m vs K => by kernel_rfl
theorem o84o0 : SumOk C84 KK (sumT T84o0 (L84o0 KK)) (.loop b84o0) := loop_ok T84o0 L84o0 (sums_of (t := ST84) ⟨sum_in (c' := .loop b84o2) (by kernel_rfl) o84o2, fun _ _ h => absurd h (by decide), trivial⟩) (fun _ _ => rfl) q84o0
theorem r84 : ∀ vs, v84 vs = bodyK C84 (lkS ST84) Try.f84 (sig 84) c84 (fillAs A84 0 vs) := fun vs => by kernel_rfl
theorem ok84 : ∀ xs q, opt (g84 xs) = some q → evalBody Try.prog sig (Gd G dep (dep 84)) KK 84 xs = some q := fun xs q h => body_ok Try.func84 (c := c84) rfl A84 v84 (sums_of (C := C84) (t := ST84) ⟨sum_in (c' := .loop b84o2) (by kernel_rfl) o84o2, sum_in (c' := .loop b84o0) (by kernel_rfl) o84o0, trivial⟩) r84 (opt_gOf h)
noncomputable def C92 : Ctx := ⟨Try.prog, sig, Gd G dep (dep 92), (sig 92).keep, (sig 92).ord⟩
noncomputable def c92 : Code := Try.f92.body.getD .skip
def T92o0 : TSt := ⟨[.d (.s), .d (.i .i64), .d (.i .i64), .nils, .d (.i .i64), .own 768, .d (.i .i64), .any, .any, .any, .any, .any], [(768, .row 3 1)]⟩
def X92o0e1 : TSt := ⟨[.d (.s), .d (.i .i64), .d (.i .i64), .own 768, .d (.i .i64), .own 768, .d (.i .i64), .any, .any, .d (.b), .d (.b), .any], [(768, .row 3 1)]⟩
def X92o0e2 : TSt := ⟨[.d (.s), .d (.i .i64), .d (.i .i64), .own 768, .d (.i .i64), .own 768, .d (.i .i64), .d (.i .i64), .d (.i .i64), .d (.b), .d (.b), .d (.b)], [(768, .row 3 1)]⟩
def X92o0e3 : TSt := ⟨[.d (.s), .d (.i .i64), .d (.i .i64), .nils, .d (.i .i64), .own 768, .d (.i .i64), .any, .any, .d (.b), .any, .any], [(768, .row 3 1)]⟩
def L92o0 (m : Nat) (vs : List Vr) (K : Cont (List DV × List (List D))) : Rs := l92o0 (vS vs 0) (vI vs 2) (vI vs 3) (fun n32 n33 v34 v35 b36 b37 v38 l39 => K .ret (fillS X92o0e1 [.s (vS vs 0), .i (n32), .i (vI vs 2), .i ((-1 : Int)), .i (n33), .v (v34), .v (v35), .b (b36), .b (b37), .v (v38), .l (l39)])) (fun n40 n41 n42 n43 b44 b45 b46 l47 => K .ret (fillS X92o0e2 [.s (vS vs 0), .i (n40), .i (vI vs 2), .i ((-1 : Int)), .i (n41), .i (n42), .i (n43), .b (b44), .b (b45), .b (b46), .l (l47)])) (fun n48 n49 v50 v51 b52 v53 v54 l55 => K (.exit 0) (fillS X92o0e3 [.s (vS vs 0), .i (n48), .i (vI vs 2), .i (vI vs 3), .i (n49), .v (v50), .v (v51), .b (b52), .v (v53), .v (v54), .l (l55)])) m (vI vs 1) (vI vs 4) (vV vs 5) (vV vs 6) (vV vs 7) (vV vs 8) (vV vs 9) (vL vs 10)
def ST92 : List (Nat × (St → Cont (List DV × List (List D)) → Rs)) := [(0, sumT T92o0 (L92o0 KK))]
noncomputable def b92o0 : Code := match nodeAt c92 0 with | some (.loop a) => a | _ => .skip
theorem q92o0 : ∀ m vs K, L92o0 (m + 1) vs K = denK C92 (lkS ST92) b92o0 1 (fillS T92o0 vs) (loopK T92o0 (L92o0 m) K) := fun m vs K => by kernel_rfl
theorem o92o0 : SumOk C92 KK (sumT T92o0 (L92o0 KK)) (.loop b92o0) := loop_ok T92o0 L92o0 (sums_of (t := ST92) ⟨fun _ _ h => absurd h (by decide), trivial⟩) (fun _ _ => rfl) q92o0
theorem r92 : ∀ vs, v92 vs = bodyK C92 (lkS ST92) Try.f92 (sig 92) c92 (fillAs A92 0 vs) := fun vs => by kernel_rfl
theorem ok92 : ∀ xs q, opt (g92 xs) = some q → evalBody Try.prog sig (Gd G dep (dep 92)) KK 92 xs = some q := fun xs q h => body_ok Try.func92 (c := c92) rfl A92 v92 (sums_of (C := C92) (t := ST92) ⟨sum_in (c' := .loop b92o0) (by kernel_rfl) o92o0, trivial⟩) r92 (opt_gOf h)
noncomputable def C125 : Ctx := ⟨Try.prog, sig, Gd G dep (dep 125), (sig 125).keep, (sig 125).ord⟩
noncomputable def c125 : Code := Try.f125.body.getD .skip
def ST125 : List (Nat × (St → Cont (List DV × List (List D)) → Rs)) := []
theorem r125 : ∀ vs, v125 vs = bodyK C125 (lkS ST125) Try.f125 (sig 125) c125 (fillAs A125 0 vs) := fun vs => by kernel_rfl
theorem ok125 : ∀ xs q, opt (g125 xs) = some q → evalBody Try.prog sig (Gd G dep (dep 125)) KK 125 xs = some q := fun xs q h => body_ok Try.func125 (c := c125) rfl A125 v125 (sums_of (C := C125) (t := ST125) trivial) r125 (opt_gOf h)
noncomputable def C106 : Ctx := ⟨Try.prog, sig, Gd G dep (dep 106), (sig 106).keep, (sig 106).ord⟩
noncomputable def c106 : Code := Try.f106.body.getD .skip
def ST106 : List (Nat × (St → Cont (List DV × List (List D)) → Rs)) := []
theorem r106 : ∀ vs, v106 vs = bodyK C106 (lkS ST106) Try.f106 (sig 106) c106 (fillAs A106 0 vs) := fun vs => by kernel_rfl
theorem ok106 : ∀ xs q, opt (g106 xs) = some q → evalBody Try.prog sig (Gd G dep (dep 106)) KK 106 xs = some q := fun xs q h => body_ok Try.func106 (c := c106) rfl A106 v106 (sums_of (C := C106) (t := ST106) trivial) r106 (opt_gOf h)
noncomputable def C85 : Ctx := ⟨Try.prog, sig, Gd G dep (dep 85), (sig 85).keep, (sig 85).ord⟩
noncomputable def c85 : Code := Try.f85.body.getD .skip
def ST85 : List (Nat × (St → Cont (List DV × List (List D)) → Rs)) := []
theorem r85 : ∀ vs, v85 vs = bodyK C85 (lkS ST85) Try.f85 (sig 85) c85 (fillAs A85 0 vs) := fun vs => by kernel_rfl
theorem ok85 : ∀ xs q, opt (g85 xs) = some q → evalBody Try.prog sig (Gd G dep (dep 85)) KK 85 xs = some q := fun xs q h => body_ok Try.func85 (c := c85) rfl A85 v85 (sums_of (C := C85) (t := ST85) trivial) r85 (opt_gOf h)
noncomputable def C44 : Ctx := ⟨Try.prog, sig, Gd G dep (dep 44), (sig 44).keep, (sig 44).ord⟩
noncomputable def c44 : Code := Try.f44.body.getD .skip
def ST44 : List (Nat × (St → Cont (List DV × List (List D)) → Rs)) := []
theorem r44 : ∀ vs, v44 vs = bodyK C44 (lkS ST44) Try.f44 (sig 44) c44 (fillAs A44 0 vs) := fun vs => by kernel_rfl
theorem ok44 : ∀ xs q, opt (g44 xs) = some q → evalBody Try.prog sig (Gd G dep (dep 44)) KK 44 xs = some q := fun xs q h => body_ok Try.func44 (c := c44) rfl A44 v44 (sums_of (C := C44) (t := ST44) trivial) r44 (opt_gOf h)
noncomputable def C62 : Ctx := ⟨Try.prog, sig, Gd G dep (dep 62), (sig 62).keep, (sig 62).ord⟩
noncomputable def c62 : Code := Try.f62.body.getD .skip
def ST62 : List (Nat × (St → Cont (List DV × List (List D)) → Rs)) := []
theorem r62 : ∀ vs, v62 vs = bodyK C62 (lkS ST62) Try.f62 (sig 62) c62 (fillAs A62 0 vs) := fun vs => by kernel_rfl
theorem ok62 : ∀ xs q, opt (g62 xs) = some q → evalBody Try.prog sig (Gd G dep (dep 62)) KK 62 xs = some q := fun xs q h => body_ok Try.func62 (c := c62) rfl A62 v62 (sums_of (C := C62) (t := ST62) trivial) r62 (opt_gOf h)
noncomputable def C63 : Ctx := ⟨Try.prog, sig, Gd G dep (dep 63), (sig 63).keep, (sig 63).ord⟩
noncomputable def c63 : Code := Try.f63.body.getD .skip
def ST63 : List (Nat × (St → Cont (List DV × List (List D)) → Rs)) := []
theorem r63 : ∀ vs, v63 vs = bodyK C63 (lkS ST63) Try.f63 (sig 63) c63 (fillAs A63 0 vs) := fun vs => by kernel_rfl
theorem ok63 : ∀ xs q, opt (g63 xs) = some q → evalBody Try.prog sig (Gd G dep (dep 63)) KK 63 xs = some q := fun xs q h => body_ok Try.func63 (c := c63) rfl A63 v63 (sums_of (C := C63) (t := ST63) trivial) r63 (opt_gOf h)
noncomputable def C22 : Ctx := ⟨Try.prog, sig, Gd G dep (dep 22), (sig 22).keep, (sig 22).ord⟩
noncomputable def c22 : Code := Try.f22.body.getD .skip
def ST22 : List (Nat × (St → Cont (List DV × List (List D)) → Rs)) := []
theorem r22 : ∀ vs, v22 vs = bodyK C22 (lkS ST22) Try.f22 (sig 22) c22 (fillAs A22 0 vs) := fun vs => by kernel_rfl
theorem ok22 : ∀ xs q, opt (g22 xs) = some q → evalBody Try.prog sig (Gd G dep (dep 22)) KK 22 xs = some q := fun xs q h => body_ok Try.func22 (c := c22) rfl A22 v22 (sums_of (C := C22) (t := ST22) trivial) r22 (opt_gOf h)
noncomputable def C86 : Ctx := ⟨Try.prog, sig, Gd G dep (dep 86), (sig 86).keep, (sig 86).ord⟩
noncomputable def c86 : Code := Try.f86.body.getD .skip
def T86o0 : TSt := ⟨[.d (.s), .d (.i .i64), .d (.i .i64), .d (.i .i64), .d (.i .i64), .any, .any, .any, .undef], []⟩
def X86o0e1 : TSt := ⟨[.d (.s), .d (.i .i64), .d (.i .i64), .d (.i .i64), .d (.i .i64), .d (.i .i64), .d (.b), .d (.b), .d (.b)], []⟩
def X86o0e2 : TSt := ⟨[.d (.s), .d (.i .i64), .d (.i .i64), .d (.i .i64), .d (.i .i64), .any, .d (.b), .any, .undef], []⟩
def L86o0 (m : Nat) (vs : List Vr) (K : Cont (List DV × List (List D))) : Rs := l86o0 (vS vs 0) (vI vs 1) (vI vs 2) (fun n23 n24 n25 n26 n27 b28 b29 b30 => K .ret (fillS X86o0e1 [.s (vS vs 0), .i (n23), .i (n24), .i (n25), .i (n26), .i (n27), .b (b28), .b (b29), .b (b30)])) (fun n31 n32 v33 b34 v35 => K (.exit 0) (fillS X86o0e2 [.s (vS vs 0), .i (vI vs 1), .i (vI vs 2), .i (n31), .i (n32), .v (v33), .b (b34), .v (v35)])) m (vI vs 3) (vI vs 4) (vV vs 5) (vV vs 6) (vV vs 7)
def ST86 : List (Nat × (St → Cont (List DV × List (List D)) → Rs)) := [(0, sumT T86o0 (L86o0 KK))]
noncomputable def b86o0 : Code := match nodeAt c86 0 with | some (.loop a) => a | _ => .skip
theorem q86o0 : ∀ m vs K, L86o0 (m + 1) vs K = denK C86 (lkS ST86) b86o0 1 (fillS T86o0 vs) (loopK T86o0 (L86o0 m) K) := fun m vs K => by kernel_rfl
theorem o86o0 : SumOk C86 KK (sumT T86o0 (L86o0 KK)) (.loop b86o0) := loop_ok T86o0 L86o0 (sums_of (t := ST86) ⟨fun _ _ h => absurd h (by decide), trivial⟩) (fun _ _ => rfl) q86o0
theorem r86 : ∀ vs, v86 vs = bodyK C86 (lkS ST86) Try.f86 (sig 86) c86 (fillAs A86 0 vs) := fun vs => by kernel_rfl
theorem ok86 : ∀ xs q, opt (g86 xs) = some q → evalBody Try.prog sig (Gd G dep (dep 86)) KK 86 xs = some q := fun xs q h => body_ok Try.func86 (c := c86) rfl A86 v86 (sums_of (C := C86) (t := ST86) ⟨sum_in (c' := .loop b86o0) (by kernel_rfl) o86o0, trivial⟩) r86 (opt_gOf h)
noncomputable def C118 : Ctx := ⟨Try.prog, sig, Gd G dep (dep 118), (sig 118).keep, (sig 118).ord⟩
noncomputable def c118 : Code := Try.f118.body.getD .skip
def ST118 : List (Nat × (St → Cont (List DV × List (List D)) → Rs)) := []
theorem r118 : ∀ vs, v118 vs = bodyK C118 (lkS ST118) Try.f118 (sig 118) c118 (fillAs A118 0 vs) := fun vs => by kernel_rfl
theorem ok118 : ∀ xs q, opt (g118 xs) = some q → evalBody Try.prog sig (Gd G dep (dep 118)) KK 118 xs = some q := fun xs q h => body_ok Try.func118 (c := c118) rfl A118 v118 (sums_of (C := C118) (t := ST118) trivial) r118 (opt_gOf h)
noncomputable def C87 : Ctx := ⟨Try.prog, sig, Gd G dep (dep 87), (sig 87).keep, (sig 87).ord⟩
noncomputable def c87 : Code := Try.f87.body.getD .skip
def ST87 : List (Nat × (St → Cont (List DV × List (List D)) → Rs)) := []
theorem r87 : ∀ vs, v87 vs = bodyK C87 (lkS ST87) Try.f87 (sig 87) c87 (fillAs A87 0 vs) := fun vs => by kernel_rfl
theorem ok87 : ∀ xs q, opt (g87 xs) = some q → evalBody Try.prog sig (Gd G dep (dep 87)) KK 87 xs = some q := fun xs q h => body_ok Try.func87 (c := c87) rfl A87 v87 (sums_of (C := C87) (t := ST87) trivial) r87 (opt_gOf h)
noncomputable def C46 : Ctx := ⟨Try.prog, sig, Gd G dep (dep 46), (sig 46).keep, (sig 46).ord⟩
noncomputable def c46 : Code := Try.f46.body.getD .skip
def ST46 : List (Nat × (St → Cont (List DV × List (List D)) → Rs)) := []
theorem r46 : ∀ vs, v46 vs = bodyK C46 (lkS ST46) Try.f46 (sig 46) c46 (fillAs A46 0 vs) := fun vs => by kernel_rfl
theorem ok46 : ∀ xs q, opt (g46 xs) = some q → evalBody Try.prog sig (Gd G dep (dep 46)) KK 46 xs = some q := fun xs q h => body_ok Try.func46 (c := c46) rfl A46 v46 (sums_of (C := C46) (t := ST46) trivial) r46 (opt_gOf h)
noncomputable def C65 : Ctx := ⟨Try.prog, sig, Gd G dep (dep 65), (sig 65).keep, (sig 65).ord⟩
noncomputable def c65 : Code := Try.f65.body.getD .skip
def ST65 : List (Nat × (St → Cont (List DV × List (List D)) → Rs)) := []
theorem r65 : ∀ vs, v65 vs = bodyK C65 (lkS ST65) Try.f65 (sig 65) c65 (fillAs A65 0 vs) := fun vs => by kernel_rfl
theorem ok65 : ∀ xs q, opt (g65 xs) = some q → evalBody Try.prog sig (Gd G dep (dep 65)) KK 65 xs = some q := fun xs q h => body_ok Try.func65 (c := c65) rfl A65 v65 (sums_of (C := C65) (t := ST65) trivial) r65 (opt_gOf h)
noncomputable def C27 : Ctx := ⟨Try.prog, sig, Gd G dep (dep 27), (sig 27).keep, (sig 27).ord⟩
noncomputable def c27 : Code := Try.f27.body.getD .skip
def ST27 : List (Nat × (St → Cont (List DV × List (List D)) → Rs)) := []
theorem r27 : ∀ vs, v27 vs = bodyK C27 (lkS ST27) Try.f27 (sig 27) c27 (fillAs A27 0 vs) := fun vs => by kernel_rfl
theorem ok27 : ∀ xs q, opt (g27 xs) = some q → evalBody Try.prog sig (Gd G dep (dep 27)) KK 27 xs = some q := fun xs q h => body_ok Try.func27 (c := c27) rfl A27 v27 (sums_of (C := C27) (t := ST27) trivial) r27 (opt_gOf h)
noncomputable def C88 : Ctx := ⟨Try.prog, sig, Gd G dep (dep 88), (sig 88).keep, (sig 88).ord⟩
noncomputable def c88 : Code := Try.f88.body.getD .skip
def ST88 : List (Nat × (St → Cont (List DV × List (List D)) → Rs)) := []
theorem r88 : ∀ vs, v88 vs = bodyK C88 (lkS ST88) Try.f88 (sig 88) c88 (fillAs A88 0 vs) := fun vs => by kernel_rfl
theorem ok88 : ∀ xs q, opt (g88 xs) = some q → evalBody Try.prog sig (Gd G dep (dep 88)) KK 88 xs = some q := fun xs q h => body_ok Try.func88 (c := c88) rfl A88 v88 (sums_of (C := C88) (t := ST88) trivial) r88 (opt_gOf h)
noncomputable def C47 : Ctx := ⟨Try.prog, sig, Gd G dep (dep 47), (sig 47).keep, (sig 47).ord⟩
noncomputable def c47 : Code := Try.f47.body.getD .skip
def ST47 : List (Nat × (St → Cont (List DV × List (List D)) → Rs)) := []
theorem r47 : ∀ vs, v47 vs = bodyK C47 (lkS ST47) Try.f47 (sig 47) c47 (fillAs A47 0 vs) := fun vs => by kernel_rfl
theorem ok47 : ∀ xs q, opt (g47 xs) = some q → evalBody Try.prog sig (Gd G dep (dep 47)) KK 47 xs = some q := fun xs q h => body_ok Try.func47 (c := c47) rfl A47 v47 (sums_of (C := C47) (t := ST47) trivial) r47 (opt_gOf h)
noncomputable def C10 : Ctx := ⟨Try.prog, sig, Gd G dep (dep 10), (sig 10).keep, (sig 10).ord⟩
noncomputable def c10 : Code := Try.f10.body.getD .skip
def ST10 : List (Nat × (St → Cont (List DV × List (List D)) → Rs)) := []
theorem r10 : ∀ vs, v10 vs = bodyK C10 (lkS ST10) Try.f10 (sig 10) c10 (fillAs A10 0 vs) := fun vs => by kernel_rfl
theorem ok10 : ∀ xs q, opt (g10 xs) = some q → evalBody Try.prog sig (Gd G dep (dep 10)) KK 10 xs = some q := fun xs q h => body_ok Try.func10 (c := c10) rfl A10 v10 (sums_of (C := C10) (t := ST10) trivial) r10 (opt_gOf h)
theorem fn_ok : ∀ f ∈ [23, 19, 43, 25, 21, 45, 64, 60, 61, 20, 89, 84, 92, 125, 106, 85, 44, 62, 63, 22, 86, 118, 87, 46, 65, 27, 88, 47, 10], FnOk Try.prog sig f := fun f h => fnOk_of (List.all_eq_true.1 (show [23, 19, 43, 25, 21, 45, 64, 60, 61, 20, 89, 84, 92, 125, 106, 85, 44, 62, 63, 22, 86, 118, 87, 46, 65, 27, 88, 47, 10].all (fnOkB Try.prog sig) = true by kernel_rfl) f h)
theorem all_ok : AllG (fun f xs q => FnOk Try.prog sig f ∧ evalBody Try.prog sig (Gd G dep (dep f)) KK f xs = some q) gT :=
  ⟨fun xs q h => ⟨fn_ok 23 (by simp), ok23 xs q h⟩, fun xs q h => ⟨fn_ok 19 (by simp), ok19 xs q h⟩, fun xs q h => ⟨fn_ok 43 (by simp), ok43 xs q h⟩, fun xs q h => ⟨fn_ok 25 (by simp), ok25 xs q h⟩, fun xs q h => ⟨fn_ok 21 (by simp), ok21 xs q h⟩, fun xs q h => ⟨fn_ok 45 (by simp), ok45 xs q h⟩, fun xs q h => ⟨fn_ok 64 (by simp), ok64 xs q h⟩, fun xs q h => ⟨fn_ok 60 (by simp), ok60 xs q h⟩, fun xs q h => ⟨fn_ok 61 (by simp), ok61 xs q h⟩, fun xs q h => ⟨fn_ok 20 (by simp), ok20 xs q h⟩, fun xs q h => ⟨fn_ok 89 (by simp), ok89 xs q h⟩, fun xs q h => ⟨fn_ok 84 (by simp), ok84 xs q h⟩, fun xs q h => ⟨fn_ok 92 (by simp), ok92 xs q h⟩, fun xs q h => ⟨fn_ok 125 (by simp), ok125 xs q h⟩, fun xs q h => ⟨fn_ok 106 (by simp), ok106 xs q h⟩, fun xs q h => ⟨fn_ok 85 (by simp), ok85 xs q h⟩, fun xs q h => ⟨fn_ok 44 (by simp), ok44 xs q h⟩, fun xs q h => ⟨fn_ok 62 (by simp), ok62 xs q h⟩, fun xs q h => ⟨fn_ok 63 (by simp), ok63 xs q h⟩, fun xs q h => ⟨fn_ok 22 (by simp), ok22 xs q h⟩, fun xs q h => ⟨fn_ok 86 (by simp), ok86 xs q h⟩, fun xs q h => ⟨fn_ok 118 (by simp), ok118 xs q h⟩, fun xs q h => ⟨fn_ok 87 (by simp), ok87 xs q h⟩, fun xs q h => ⟨fn_ok 46 (by simp), ok46 xs q h⟩, fun xs q h => ⟨fn_ok 65 (by simp), ok65 xs q h⟩, fun xs q h => ⟨fn_ok 27 (by simp), ok27 xs q h⟩, fun xs q h => ⟨fn_ok 88 (by simp), ok88 xs q h⟩, fun xs q h => ⟨fn_ok 47 (by simp), ok47 xs q h⟩, fun xs q h => ⟨fn_ok 10 (by simp), ok10 xs q h⟩, trivial⟩
theorem G_ok (f : Nat) : SpecOk Try.prog (sig f) (fun xs => opt (G f xs)) f := G_spec (by kernel_rfl) (allG_of all_ok) f
end
end Go.Den.L10
