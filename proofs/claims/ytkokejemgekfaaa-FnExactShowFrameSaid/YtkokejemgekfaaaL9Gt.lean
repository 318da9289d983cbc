/- The functions' table, and that each is what its twin says. Printed by tw.py. -/
import Derived.Test.YtkokejemgekfaaaL9Tw
import Derived.Test.YtkokejemgekfaaaProg
import Derived.KernelRfl
set_option linter.unusedVariables false
namespace Go.Den.L9
open Go Go.Proofs
noncomputable section
set_option maxRecDepth 100000
def sg23 : Sig := ⟨[.bor, .bor], .sc [.one (.i .i64 0)], [0, 1, 2, 4, 11, 18, 25], []⟩
def sg15 : Sig := ⟨[.bor, .bor], .sc [.one (.i .i64 0)], [0, 1, 2, 4, 10], []⟩
def sg28 : Sig := ⟨[.bor, .bor], .sc [.one (.i .i64 0)], [0, 1, 4, 5, 11, 15, 25], []⟩
def sg25 : Sig := ⟨[.bor], .sc [.agg [.i .i64 0, .s ⟨#[]⟩, .s ⟨#[]⟩, .i .i64 0, .i .i64 0, .s ⟨#[]⟩]], [0, 1, 2, 3], []⟩
def sg17 : Sig := ⟨[.bor], .sc [.agg [.i .i64 0, .i .i64 0, .i .i64 0, .i .i64 0, .s ⟨#[]⟩, .s ⟨#[]⟩, .i .i64 0, .i .i64 0, .s ⟨#[]⟩]], [0, 1, 2, 3], []⟩
def sg30 : Sig := ⟨[.bor], .fresh [[some (30, 9)]], [0, 2, 3, 4, 11], []⟩
def sg60 : Sig := ⟨[.bor, .bor, .bor], .sc [.one (.b false)], [0, 1, 2, 6], []⟩
def sg61 : Sig := ⟨[.bor], .sc [.one (.b false)], [0, 1, 2, 36, 54], []⟩
def sg16 : Sig := ⟨[.bor], .sc [.one (.b false)], [0, 1, 2], []⟩
def sg66 : Sig := ⟨[.bor, .bor], .sc [.one (.b false)], [0, 1, 4, 5, 9, 55], [(4, [(0, 0, []), (1, 0, []), (2, 0, []), (3, 0, []), (4, 0, []), (5, 0, []), (6, 0, []), (7, 0, []), (8, 0, []), (9, 0, []), (10, 0, []), (11, 0, []), (12, 0, []), (13, 0, []), (14, 0, []), (15, 0, []), (16, 0, []), (17, 0, []), (18, 0, []), (19, 0, []), (20, 0, []), (21, 0, []), (22, 0, []), (23, 0, []), (24, 0, []), (25, 0, []), (26, 0, []), (27, 0, []), (28, 0, []), (29, 0, []), (30, 0, []), (31, 0, []), (32, 0, []), (33, 0, []), (34, 0, []), (35, 0, []), (36, 0, []), (37, 0, []), (38, 0, []), (39, 0, []), (40, 0, []), (41, 0, []), (42, 0, []), (43, 0, [])])]⟩
def sg29 : Sig := ⟨[.bor], .sc [.one (.b false)], [0, 2], []⟩
def sg89 : Sig := ⟨[.bor], .sc [.one (.s ⟨#[]⟩)], [0, 2, 3, 6, 9], []⟩
def sg110 : Sig := ⟨[.bor], .sc [.one (.s ⟨#[]⟩)], [0, 2], []⟩
def sg111 : Sig := ⟨[.bor], .sc [.one (.s ⟨#[]⟩)], [0, 2, 4], []⟩
def sg69 : Sig := ⟨[.bor], .sc [.one (.s ⟨#[]⟩)], [0, 1, 2, 5], [(3, [(0, 0, []), (1, 0, []), (2, 0, []), (3, 0, []), (4, 0, []), (5, 0, []), (6, 0, []), (7, 0, []), (8, 0, []), (9, 0, []), (10, 0, []), (11, 0, []), (12, 0, []), (13, 0, []), (14, 0, []), (15, 0, []), (16, 0, []), (17, 0, []), (18, 0, []), (19, 0, []), (20, 0, []), (21, 0, []), (22, 0, []), (23, 0, [])])]⟩
def sg81 : Sig := ⟨[.bor], .sc [.one (.s ⟨#[]⟩)], [0, 1, 2], [(1, [(0, 0, []), (1, 0, []), (2, 0, []), (3, 0, []), (4, 0, []), (5, 0, []), (6, 0, []), (7, 0, []), (8, 0, []), (9, 0, []), (10, 0, []), (11, 0, []), (12, 0, []), (13, 0, []), (14, 0, []), (15, 0, []), (16, 0, [])])]⟩
def sg41 : Sig := ⟨[.bor], .sc [.one (.s ⟨#[]⟩)], [0, 2, 3, 4, 7, 11], []⟩
def sg62 : Sig := ⟨[.bor, .bor, .bor], .sc [.one (.b false)], [0, 1, 2, 6], []⟩
def sg63 : Sig := ⟨[.bor], .sc [.one (.b false)], [0, 1, 2, 3, 4, 41], []⟩
def sg18 : Sig := ⟨[.bor], .sc [.one (.b false)], [0, 1, 2], []⟩
def sg67 : Sig := ⟨[.bor, .bor], .sc [.one (.b false)], [0, 1, 4, 5, 6, 7, 8, 9, 10, 11, 29, 52], [(6, [(0, 0, []), (1, 0, []), (2, 0, []), (3, 0, []), (4, 0, []), (5, 0, []), (6, 0, []), (7, 0, []), (8, 0, []), (9, 0, []), (10, 0, []), (11, 0, []), (12, 0, [])]), (8, [(0, 0, []), (1, 0, []), (2, 0, []), (3, 0, []), (4, 0, []), (5, 0, []), (6, 0, []), (7, 0, []), (8, 0, []), (9, 0, []), (10, 0, []), (11, 0, []), (12, 0, []), (13, 0, []), (14, 0, []), (15, 0, []), (16, 0, []), (17, 0, []), (18, 0, []), (19, 0, []), (20, 0, []), (21, 0, []), (22, 0, [])])]⟩
def sg31 : Sig := ⟨[.bor], .sc [.one (.b false)], [0, 2], []⟩
def sg91 : Sig := ⟨[.bor], .sc [.one (.s ⟨#[]⟩)], [0, 2, 3, 6, 9], []⟩
def sg82 : Sig := ⟨[.bor], .sc [.one (.s ⟨#[]⟩)], [0, 2, 3, 5, 6, 7, 8, 9], []⟩
def sg83 : Sig := ⟨[.bor], .sc [.one (.s ⟨#[]⟩)], [0, 2], []⟩
def sg112 : Sig := ⟨[.bor], .sc [.one (.i .i64 0)], [0, 2, 4], []⟩
def sg70 : Sig := ⟨[.bor], .sc [.one (.s ⟨#[]⟩)], [0, 1, 2, 5], [(3, [(0, 0, []), (1, 0, []), (2, 0, []), (3, 0, []), (4, 0, []), (5, 0, []), (6, 0, []), (7, 0, []), (8, 0, []), (9, 0, []), (10, 0, []), (11, 0, []), (12, 0, []), (13, 0, []), (14, 0, []), (15, 0, []), (16, 0, []), (20, 0, []), (21, 0, []), (17, 1, [6, 10, 20, 21]), (18, 0, []), (19, 0, []), (22, 0, []), (23, 0, []), (24, 0, [])])]⟩
def sg42 : Sig := ⟨[.bor], .sc [.one (.s ⟨#[]⟩)], [0, 2, 3, 5, 8, 9, 10, 11, 12], [(7, [(0, 0, []), (1, 0, []), (2, 0, []), (3, 0, []), (4, 0, []), (5, 0, []), (6, 0, []), (10, 0, []), (11, 0, []), (7, 1, [0, 10, 11]), (8, 0, []), (9, 0, []), (12, 0, []), (13, 0, []), (14, 0, []), (15, 1, [])])]⟩
def sg65 : Sig := ⟨[.bor, .bor], .sc [.one (.b false)], [0, 1, 2, 3, 4, 9, 14, 19, 24, 29, 34], []⟩
def sg68 : Sig := ⟨[.bor, .bor], .sc [.one (.b false)], [0, 1, 2, 3, 4, 9, 14, 19, 25], []⟩
def sg32 : Sig := ⟨[.bor, .bor], .sc [.one (.b false)], [0, 1, 4, 5, 10, 14, 26], [(6, [(0, 0, []), (1, 0, []), (2, 0, []), (3, 0, []), (4, 0, []), (5, 0, []), (6, 0, []), (7, 0, []), (8, 0, []), (9, 0, [])])]⟩
def sg9 : Sig := ⟨[.bor], .sc [.one (.b false)], [0, 2, 3, 4, 5, 6, 11, 21, 26], []⟩
def sig : Nat → Sig := lkF ⟨[], .fresh [], [], []⟩ [(23, sg23), (15, sg15), (28, sg28), (25, sg25), (17, sg17), (30, sg30), (60, sg60), (61, sg61), (16, sg16), (66, sg66), (29, sg29), (89, sg89), (110, sg110), (111, sg111), (69, sg69), (81, sg81), (41, sg41), (62, sg62), (63, sg63), (18, sg18), (67, sg67), (31, sg31), (91, sg91), (82, sg82), (83, sg83), (112, sg112), (70, sg70), (42, sg42), (65, sg65), (68, sg68), (32, sg32), (9, sg9)]
def dep : Nat → Nat := lkF 0 [(23, 1), (15, 2), (28, 3), (25, 1), (17, 2), (30, 3), (60, 1), (61, 2), (16, 3), (66, 4), (29, 5), (89, 2), (110, 3), (111, 3), (69, 4), (81, 5), (41, 6), (62, 1), (63, 2), (18, 3), (67, 4), (31, 5), (91, 2), (82, 3), (83, 3), (112, 1), (70, 4), (42, 6), (65, 1), (68, 2), (32, 3), (9, 7)]
def gT : List (Nat × (List DV → Bool × List DV × List (List D))) := [(23, g23), (15, g15), (28, g28), (25, g25), (17, g17), (30, g30), (60, g60), (61, g61), (16, g16), (66, g66), (29, g29), (89, g89), (110, g110), (111, g111), (69, g69), (81, g81), (41, g41), (62, g62), (63, g63), (18, g18), (67, g67), (31, g31), (91, g91), (82, g82), (83, g83), (112, g112), (70, g70), (42, g42), (65, g65), (68, g68), (32, g32), (9, g9)]
def G : Nat → List DV → Bool × List DV × List (List D) := lkF (fun _ => (false, [], [])) gT
noncomputable def C23 : Ctx := ⟨Try.prog, sig, Gd G dep (dep 23), (sig 23).keep, (sig 23).ord⟩
noncomputable def c23 : Code := Try.f23.body.getD .skip
def ST23 : List (Nat × (St → Cont (List DV × List (List D)) → Rs)) := []
theorem r23 : ∀ vs, v23 vs = bodyK C23 (lkS ST23) Try.f23 (sig 23) c23 (fillAs A23 0 vs) := fun vs => by kernel_rfl
theorem ok23 : ∀ xs q, opt (g23 xs) = some q → evalBody Try.prog sig (Gd G dep (dep 23)) KK 23 xs = some q := fun xs q h => body_ok Try.func23 (c := c23) rfl A23 v23 (sums_of (C := C23) (t := ST23) trivial) r23 (opt_gOf h)
noncomputable def C15 : Ctx := ⟨Try.prog, sig, Gd G dep (dep 15), (sig 15).keep, (sig 15).ord⟩
noncomputable def c15 : Code := Try.f15.body.getD .skip
def ST15 : List (Nat × (St → Cont (List DV × List (List D)) → Rs)) := []
theorem r15 : ∀ vs, v15 vs = bodyK C15 (lkS ST15) Try.f15 (sig 15) c15 (fillAs A15 0 vs) := fun vs => by kernel_rfl
theorem ok15 : ∀ xs q, opt (g15 xs) = some q → evalBody Try.prog sig (Gd G dep (dep 15)) KK 15 xs = some q := fun xs q h => body_ok Try.func15 (c := c15) rfl A15 v15 (sums_of (C := C15) (t := ST15) trivial) r15 (opt_gOf h)
noncomputable def C28 : Ctx := ⟨Try.prog, sig, Gd G dep (dep 28), (sig 28).keep, (sig 28).ord⟩
noncomputable def c28 : Code := Try.f28.body.getD .skip
def T28o1 : TSt := ⟨[.d (.l), .d (.i .i64), .d (.i .i64), .d (.i .i64), .d (.b), .any, .any], []⟩
def X28o1e1 : TSt := ⟨[.d (.l), .d (.i .i64), .d (.i .i64), .d (.i .i64), .d (.b), .d (.b), .d (.b)], []⟩
def X28o1e2 : TSt := ⟨[.d (.l), .d (.i .i64), .d (.i .i64), .d (.i .i64), .d (.b), .d (.b), .any], []⟩
def L28o1 (m : Nat) (vs : List Vr) (K : Cont (List DV × List (List D))) : Rs := l28o1 (vL vs 0) (vI vs 2) (vB vs 4) (fun n22 n23 b24 b25 => K .ret (fillS X28o1e1 [.l (vL vs 0), .i (n22), .i ((-1)), .i (n23), .b (vB vs 4), .b (b24), .b (b25)])) (fun n26 n27 b28 v29 => K (.exit 0) (fillS X28o1e2 [.l (vL vs 0), .i (n26), .i (vI vs 2), .i (n27), .b (vB vs 4), .b (b28), .v (v29)])) m (vI vs 1) (vI vs 3) (vV vs 5) (vV vs 6)
def ST28 : List (Nat × (St → Cont (List DV × List (List D)) → Rs)) := [(1, sumT T28o1 (L28o1 KK))]
noncomputable def b28o1 : Code := match nodeAt c28 1 with | some (.loop a) => a | _ => .skip
theorem q28o1 : ∀ m vs K, L28o1 (m + 1) vs K = denK C28 (lkS ST28) b28o1 2 (fillS T28o1 vs) (loopK T28o1 (L28o1 m) K) := fun m vs K => by kernel_rfl
theorem o28o1 : SumOk C28 KK (sumT T28o1 (L28o1 KK)) (.loop b28o1) := loop_ok T28o1 L28o1 (sums_of (t := ST28) ⟨fun _ _ h => absurd h (by decide), trivial⟩) (fun _ _ => rfl) q28o1
theorem r28 : ∀ vs, v28 vs = bodyK C28 (lkS ST28) Try.f28 (sig 28) c28 (fillAs A28 0 vs) := fun vs => by kernel_rfl
theorem ok28 : ∀ xs q, opt (g28 xs) = some q → evalBody Try.prog sig (Gd G dep (dep 28)) KK 28 xs = some q := fun xs q h => body_ok Try.func28 (c := c28) rfl A28 v28 (sums_of (C := C28) (t := ST28) ⟨sum_in (c' := .loop b28o1) (by kernel_rfl) o28o1, trivial⟩) r28 (opt_gOf h)
noncomputable def C25 : Ctx := ⟨Try.prog, sig, Gd G dep (dep 25), (sig 25).keep, (sig 25).ord⟩
noncomputable def c25 : Code := Try.f25.body.getD .skip
def ST25 : List (Nat × (St → Cont (List DV × List (List D)) → Rs)) := []
theorem r25 : ∀ vs, v25 vs = bodyK C25 (lkS ST25) Try.f25 (sig 25) c25 (fillAs A25 0 vs) := fun vs => by kernel_rfl
theorem ok25 : ∀ xs q, opt (g25 xs) = some q → evalBody Try.prog sig (Gd G dep (dep 25)) KK 25 xs = some q := fun xs q h => body_ok Try.func25 (c := c25) rfl A25 v25 (sums_of (C := C25) (t := ST25) trivial) r25 (opt_gOf h)
noncomputable def C17 : Ctx := ⟨Try.prog, sig, Gd G dep (dep 17), (sig 17).keep, (sig 17).ord⟩
noncomputable def c17 : Code := Try.f17.body.getD .skip
def ST17 : List (Nat × (St → Cont (List DV × List (List D)) → Rs)) := []
theorem r17 : ∀ vs, v17 vs = bodyK C17 (lkS ST17) Try.f17 (sig 17) c17 (fillAs A17 0 vs) := fun vs => by kernel_rfl
theorem ok17 : ∀ xs q, opt (g17 xs) = some q → evalBody Try.prog sig (Gd G dep (dep 17)) KK 17 xs = some q := fun xs q h => body_ok Try.func17 (c := c17) rfl A17 v17 (sums_of (C := C17) (t := ST17) trivial) r17 (opt_gOf h)
noncomputable def C30 : Ctx := ⟨Try.prog, sig, Gd G dep (dep 30), (sig 30).keep, (sig 30).ord⟩
noncomputable def c30 : Code := Try.f30.body.getD .skip
def T30o0 : TSt := ⟨[.d (.l), .nils, .own 448, .d (.i .i64), .any], [(448, .row 30 9)]⟩
def X30o0e1 : TSt := ⟨[.d (.l), .nils, .own 448, .d (.i .i64), .d (.b)], [(448, .row 30 9)]⟩
def L30o0 (m : Nat) (vs : List Vr) (K : Cont (List DV × List (List D))) : Rs := l30o0 (vL vs 0) (fun n13 b14 l15 => K (.exit 0) (fillS X30o0e1 [.l (vL vs 0), .i (n13), .b (b14), .l (l15)])) m (vI vs 1) (vV vs 2) (vL vs 3)
def ST30 : List (Nat × (St → Cont (List DV × List (List D)) → Rs)) := [(0, sumT T30o0 (L30o0 KK))]
noncomputable def b30o0 : Code := match nodeAt c30 0 with | some (.loop a) => a | _ => .skip
theorem q30o0 : ∀ m vs K, L30o0 (m + 1) vs K = denK C30 (lkS ST30) b30o0 1 (fillS T30o0 vs) (loopK T30o0 (L30o0 m) K) := fun m vs K => by kernel_rfl
theorem o30o0 : SumOk C30 KK (sumT T30o0 (L30o0 KK)) (.loop b30o0) := loop_ok T30o0 L30o0 (sums_of (t := ST30) ⟨fun _ _ h => absurd h (by decide), trivial⟩) (fun _ _ => rfl) q30o0
theorem r30 : ∀ vs, v30 vs = bodyK C30 (lkS ST30) Try.f30 (sig 30) c30 (fillAs A30 0 vs) := fun vs => by kernel_rfl
theorem ok30 : ∀ xs q, opt (g30 xs) = some q → evalBody Try.prog sig (Gd G dep (dep 30)) KK 30 xs = some q := fun xs q h => body_ok Try.func30 (c := c30) rfl A30 v30 (sums_of (C := C30) (t := ST30) ⟨sum_in (c' := .loop b30o0) (by kernel_rfl) o30o0, trivial⟩) r30 (opt_gOf h)
noncomputable def C60 : Ctx := ⟨Try.prog, sig, Gd G dep (dep 60), (sig 60).keep, (sig 60).ord⟩
noncomputable def c60 : Code := Try.f60.body.getD .skip
def ST60 : List (Nat × (St → Cont (List DV × List (List D)) → Rs)) := []
theorem r60 : ∀ vs, v60 vs = bodyK C60 (lkS ST60) Try.f60 (sig 60) c60 (fillAs A60 0 vs) := fun vs => by kernel_rfl
theorem ok60 : ∀ xs q, opt (g60 xs) = some q → evalBody Try.prog sig (Gd G dep (dep 60)) KK 60 xs = some q := fun xs q h => body_ok Try.func60 (c := c60) rfl A60 v60 (sums_of (C := C60) (t := ST60) trivial) r60 (opt_gOf h)
noncomputable def C61 : Ctx := ⟨Try.prog, sig, Gd G dep (dep 61), (sig 61).keep, (sig 61).ord⟩
noncomputable def c61 : Code := Try.f61.body.getD .skip
def ST61 : List (Nat × (St → Cont (List DV × List (List D)) → Rs)) := []
theorem r61 : ∀ vs, v61 vs = bodyK C61 (lkS ST61) Try.f61 (sig 61) c61 (fillAs A61 0 vs) := fun vs => by kernel_rfl
theorem ok61 : ∀ xs q, opt (g61 xs) = some q → evalBody Try.prog sig (Gd G dep (dep 61)) KK 61 xs = some q := fun xs q h => body_ok Try.func61 (c := c61) rfl A61 v61 (sums_of (C := C61) (t := ST61) trivial) r61 (opt_gOf h)
noncomputable def C16 : Ctx := ⟨Try.prog, sig, Gd G dep (dep 16), (sig 16).keep, (sig 16).ord⟩
noncomputable def c16 : Code := Try.f16.body.getD .skip
def ST16 : List (Nat × (St → Cont (List DV × List (List D)) → Rs)) := []
theorem r16 : ∀ vs, v16 vs = bodyK C16 (lkS ST16) Try.f16 (sig 16) c16 (fillAs A16 0 vs) := fun vs => by kernel_rfl
theorem ok16 : ∀ xs q, opt (g16 xs) = some q → evalBody Try.prog sig (Gd G dep (dep 16)) KK 16 xs = some q := fun xs q h => body_ok Try.func16 (c := c16) rfl A16 v16 (sums_of (C := C16) (t := ST16) trivial) r16 (opt_gOf h)
noncomputable def C66 : Ctx := ⟨Try.prog, sig, Gd G dep (dep 66), (sig 66).keep, (sig 66).ord⟩
noncomputable def c66 : Code := Try.f66.body.getD .skip
def T66o0 : TSt := ⟨[.d (.l), .d (.i .i64), .d (.b), .d (.i .i64), .any, .any], []⟩
def X66o0e1 : TSt := ⟨[.d (.l), .d (.i .i64), .d (.b), .d (.i .i64), .d (.b), .d (.b)], []⟩
def X66o0e2 : TSt := ⟨[.d (.l), .d (.i .i64), .d (.b), .d (.i .i64), .d (.b), .any], []⟩
def L66o0 (m : Nat) (vs : List Vr) (K : Cont (List DV × List (List D))) : Rs := l66o0 (vL vs 0) (vI vs 1) (vB vs 2) (fun n19 b20 b21 => K .ret (fillS X66o0e1 [.l (vL vs 0), .i (vI vs 1), .b (false), .i (n19), .b (b20), .b (b21)])) (fun n22 b23 v24 => K (.exit 0) (fillS X66o0e2 [.l (vL vs 0), .i (vI vs 1), .b (vB vs 2), .i (n22), .b (b23), .v (v24)])) m (vI vs 3) (vV vs 4) (vV vs 5)
def ST66 : List (Nat × (St → Cont (List DV × List (List D)) → Rs)) := [(0, sumT T66o0 (L66o0 KK))]
noncomputable def b66o0 : Code := match nodeAt c66 0 with | some (.loop a) => a | _ => .skip
theorem q66o0 : ∀ m vs K, L66o0 (m + 1) vs K = denK C66 (lkS ST66) b66o0 1 (fillS T66o0 vs) (loopK T66o0 (L66o0 m) K) := fun m vs K => by kernel_rfl
theorem o66o0 : SumOk C66 KK (sumT T66o0 (L66o0 KK)) (.loop b66o0) := loop_ok T66o0 L66o0 (sums_of (t := ST66) ⟨fun _ _ h => absurd h (by decide), trivial⟩) (fun _ _ => rfl) q66o0
theorem r66 : ∀ vs, v66 vs = bodyK C66 (lkS ST66) Try.f66 (sig 66) c66 (fillAs A66 0 vs) := fun vs => by kernel_rfl
theorem ok66 : ∀ xs q, opt (g66 xs) = some q → evalBody Try.prog sig (Gd G dep (dep 66)) KK 66 xs = some q := fun xs q h => body_ok Try.func66 (c := c66) rfl A66 v66 (sums_of (C := C66) (t := ST66) ⟨sum_in (c' := .loop b66o0) (by kernel_rfl) o66o0, trivial⟩) r66 (opt_gOf h)
noncomputable def C29 : Ctx := ⟨Try.prog, sig, Gd G dep (dep 29), (sig 29).keep, (sig 29).ord⟩
noncomputable def c29 : Code := Try.f29.body.getD .skip
def ST29 : List (Nat × (St → Cont (List DV × List (List D)) → Rs)) := []
theorem r29 : ∀ vs, v29 vs = bodyK C29 (lkS ST29) Try.f29 (sig 29) c29 (fillAs A29 0 vs) := fun vs => by kernel_rfl
theorem ok29 : ∀ xs q, opt (g29 xs) = some q → evalBody Try.prog sig (Gd G dep (dep 29)) KK 29 xs = some q := fun xs q h => body_ok Try.func29 (c := c29) rfl A29 v29 (sums_of (C := C29) (t := ST29) trivial) r29 (opt_gOf h)
noncomputable def C89 : Ctx := ⟨Try.prog, sig, Gd G dep (dep 89), (sig 89).keep, (sig 89).ord⟩
noncomputable def c89 : Code := Try.f89.body.getD .skip
def T89o1 : TSt := ⟨[.d (.i .i64), .d (.s), .own 448, .d (.b), .any], [(448, .row 5 1)]⟩
def X89o1e1 : TSt := ⟨[.d (.i .i64), .d (.s), .own 448, .d (.b), .d (.b)], [(448, .row 5 1)]⟩
def L89o1 (m : Nat) (vs : List Vr) (K : Cont (List DV × List (List D))) : Rs := l89o1 (vS vs 1) (vB vs 2) (fun n16 b17 l18 => K (.exit 0) (fillS X89o1e1 [.i (n16), .s (vS vs 1), .b (vB vs 2), .b (b17), .l (l18)])) m (vI vs 0) (vV vs 3) (vL vs 4)
def ST89 : List (Nat × (St → Cont (List DV × List (List D)) → Rs)) := [(1, sumT T89o1 (L89o1 KK))]
noncomputable def b89o1 : Code := match nodeAt c89 1 with | some (.loop a) => a | _ => .skip
theorem q89o1 : ∀ m vs K, L89o1 (m + 1) vs K = denK C89 (lkS ST89) b89o1 2 (fillS T89o1 vs) (loopK T89o1 (L89o1 m) K) := fun m vs K => by kernel_rfl
theorem o89o1 : SumOk C89 KK (sumT T89o1 (L89o1 KK)) (.loop b89o1) := loop_ok T89o1 L89o1 (sums_of (t := ST89) ⟨fun _ _ h => absurd h (by decide), trivial⟩) (fun _ _ => rfl) q89o1
theorem r89 : ∀ vs, v89 vs = bodyK C89 (lkS ST89) Try.f89 (sig 89) c89 (fillAs A89 0 vs) := fun vs => by kernel_rfl
theorem ok89 : ∀ xs q, opt (g89 xs) = some q → evalBody Try.prog sig (Gd G dep (dep 89)) KK 89 xs = some q := fun xs q h => body_ok Try.func89 (c := c89) rfl A89 v89 (sums_of (C := C89) (t := ST89) ⟨sum_in (c' := .loop b89o1) (by kernel_rfl) o89o1, trivial⟩) r89 (opt_gOf h)
noncomputable def C110 : Ctx := ⟨Try.prog, sig, Gd G dep (dep 110), (sig 110).keep, (sig 110).ord⟩
noncomputable def c110 : Code := Try.f110.body.getD .skip
def ST110 : List (Nat × (St → Cont (List DV × List (List D)) → Rs)) := []
theorem r110 : ∀ vs, v110 vs = bodyK C110 (lkS ST110) Try.f110 (sig 110) c110 (fillAs A110 0 vs) := fun vs => by kernel_rfl
theorem ok110 : ∀ xs q, opt (g110 xs) = some q → evalBody Try.prog sig (Gd G dep (dep 110)) KK 110 xs = some q := fun xs q h => body_ok Try.func110 (c := c110) rfl A110 v110 (sums_of (C := C110) (t := ST110) trivial) r110 (opt_gOf h)
noncomputable def C111 : Ctx := ⟨Try.prog, sig, Gd G dep (dep 111), (sig 111).keep, (sig 111).ord⟩
noncomputable def c111 : Code := Try.f111.body.getD .skip
def ST111 : List (Nat × (St → Cont (List DV × List (List D)) → Rs)) := []
theorem r111 : ∀ vs, v111 vs = bodyK C111 (lkS ST111) Try.f111 (sig 111) c111 (fillAs A111 0 vs) := fun vs => by kernel_rfl
theorem ok111 : ∀ xs q, opt (g111 xs) = some q → evalBody Try.prog sig (Gd G dep (dep 111)) KK 111 xs = some q := fun xs q h => body_ok Try.func111 (c := c111) rfl A111 v111 (sums_of (C := C111) (t := ST111) trivial) r111 (opt_gOf h)
noncomputable def C69 : Ctx := ⟨Try.prog, sig, Gd G dep (dep 69), (sig 69).keep, (sig 69).ord⟩
noncomputable def c69 : Code := Try.f69.body.getD .skip
def ST69 : List (Nat × (St → Cont (List DV × List (List D)) → Rs)) := []
theorem r69 : ∀ vs, v69 vs = bodyK C69 (lkS ST69) Try.f69 (sig 69) c69 (fillAs A69 0 vs) := fun vs => by kernel_rfl
theorem ok69 : ∀ xs q, opt (g69 xs) = some q → evalBody Try.prog sig (Gd G dep (dep 69)) KK 69 xs = some q := fun xs q h => body_ok Try.func69 (c := c69) rfl A69 v69 (sums_of (C := C69) (t := ST69) trivial) r69 (opt_gOf h)
noncomputable def C81 : Ctx := ⟨Try.prog, sig, Gd G dep (dep 81), (sig 81).keep, (sig 81).ord⟩
noncomputable def c81 : Code := Try.f81.body.getD .skip
def ST81 : List (Nat × (St → Cont (List DV × List (List D)) → Rs)) := []
theorem r81 : ∀ vs, v81 vs = bodyK C81 (lkS ST81) Try.f81 (sig 81) c81 (fillAs A81 0 vs) := fun vs => by kernel_rfl
theorem ok81 : ∀ xs q, opt (g81 xs) = some q → evalBody Try.prog sig (Gd G dep (dep 81)) KK 81 xs = some q := fun xs q h => body_ok Try.func81 (c := c81) rfl A81 v81 (sums_of (C := C81) (t := ST81) trivial) r81 (opt_gOf h)
noncomputable def C41 : Ctx := ⟨Try.prog, sig, Gd G dep (dep 41), (sig 41).keep, (sig 41).ord⟩
noncomputable def c41 : Code := Try.f41.body.getD .skip
def T41o1 : TSt := ⟨[.d (.l), .d (.s), .d (.s), .d (.i .i64), .d (.b), .any], []⟩
def X41o1e1 : TSt := ⟨[.d (.l), .d (.s), .d (.s), .d (.i .i64), .d (.b), .d (.b)], []⟩
def L41o1 (m : Nat) (vs : List Vr) (K : Cont (List DV × List (List D))) : Rs := l41o1 (vL vs 0) (vS vs 1) (vB vs 4) (fun s19 n20 b21 => K (.exit 0) (fillS X41o1e1 [.l (vL vs 0), .s (vS vs 1), .s (s19), .i (n20), .b (vB vs 4), .b (b21)])) m (vS vs 2) (vI vs 3) (vV vs 5)
def ST41 : List (Nat × (St → Cont (List DV × List (List D)) → Rs)) := [(1, sumT T41o1 (L41o1 KK))]
noncomputable def b41o1 : Code := match nodeAt c41 1 with | some (.loop a) => a | _ => .skip
theorem q41o1 : ∀ m vs K, L41o1 (m + 1) vs K = denK C41 (lkS ST41) b41o1 2 (fillS T41o1 vs) (loopK T41o1 (L41o1 m) K) := fun m vs K => by kernel_rfl
theorem o41o1 : SumOk C41 KK (sumT T41o1 (L41o1 KK)) (.loop b41o1) := loop_ok T41o1 L41o1 (sums_of (t := ST41) ⟨fun _ _ h => absurd h (by decide), trivial⟩) (fun _ _ => rfl) q41o1
theorem r41 : ∀ vs, v41 vs = bodyK C41 (lkS ST41) Try.f41 (sig 41) c41 (fillAs A41 0 vs) := fun vs => by kernel_rfl
theorem ok41 : ∀ xs q, opt (g41 xs) = some q → evalBody Try.prog sig (Gd G dep (dep 41)) KK 41 xs = some q := fun xs q h => body_ok Try.func41 (c := c41) rfl A41 v41 (sums_of (C := C41) (t := ST41) ⟨sum_in (c' := .loop b41o1) (by kernel_rfl) o41o1, trivial⟩) r41 (opt_gOf h)
noncomputable def C62 : Ctx := ⟨Try.prog, sig, Gd G dep (dep 62), (sig 62).keep, (sig 62).ord⟩
noncomputable def c62 : Code := Try.f62.body.getD .skip
def ST62 : List (Nat × (St → Cont (List DV × List (List D)) → Rs)) := []
theorem r62 : ∀ vs, v62 vs = bodyK C62 (lkS ST62) Try.f62 (sig 62) c62 (fillAs A62 0 vs) := fun vs => by kernel_rfl
theorem ok62 : ∀ xs q, opt (g62 xs) = some q → evalBody Try.prog sig (Gd G dep (dep 62)) KK 62 xs = some q := fun xs q h => body_ok Try.func62 (c := c62) rfl A62 v62 (sums_of (C := C62) (t := ST62) trivial) r62 (opt_gOf h)
noncomputable def C63 : Ctx := ⟨Try.prog, sig, Gd G dep (dep 63), (sig 63).keep, (sig 63).ord⟩
noncomputable def c63 : Code := Try.f63.body.getD .skip
def ST63 : List (Nat × (St → Cont (List DV × List (List D)) → Rs)) := []
theorem r63 : ∀ vs, v63 vs = bodyK C63 (lkS ST63) Try.f63 (sig 63) c63 (fillAs A63 0 vs) := fun vs => by kernel_rfl
theorem ok63 : ∀ xs q, opt (g63 xs) = some q → evalBody Try.prog sig (Gd G dep (dep 63)) KK 63 xs = some q := fun xs q h => body_ok Try.func63 (c := c63) rfl A63 v63 (sums_of (C := C63) (t := ST63) trivial) r63 (opt_gOf h)
noncomputable def C18 : Ctx := ⟨Try.prog, sig, Gd G dep (dep 18), (sig 18).keep, (sig 18).ord⟩
noncomputable def c18 : Code := Try.f18.body.getD .skip
def ST18 : List (Nat × (St → Cont (List DV × List (List D)) → Rs)) := []
theorem r18 : ∀ vs, v18 vs = bodyK C18 (lkS ST18) Try.f18 (sig 18) c18 (fillAs A18 0 vs) := fun vs => by kernel_rfl
theorem ok18 : ∀ xs q, opt (g18 xs) = some q → evalBody Try.prog sig (Gd G dep (dep 18)) KK 18 xs = some q := fun xs q h => body_ok Try.func18 (c := c18) rfl A18 v18 (sums_of (C := C18) (t := ST18) trivial) r18 (opt_gOf h)
noncomputable def C67 : Ctx := ⟨Try.prog, sig, Gd G dep (dep 67), (sig 67).keep, (sig 67).ord⟩
noncomputable def c67 : Code := Try.f67.body.getD .skip
def T67o0 : TSt := ⟨[.d (.l), .d (.i .i64), .d (.b), .d (.i .i64), .any, .undef, .d (.l), .d (.i .i64), .d (.i .i64), .any, .any, .any], []⟩
def X67o0e1 : TSt := ⟨[.d (.l), .d (.i .i64), .d (.b), .d (.i .i64), .d (.i .i64), .ptr 448 0, .d (.l), .d (.i .i64), .d (.i .i64), .d (.b), .d (.b), .d (.b)], [(448, .box [.d (.i .i64), .d (.i .i64), .d (.i .i64), .d (.i .i64), .d (.s), .d (.s), .d (.i .i64), .d (.i .i64), .d (.s)])]⟩
def X67o0e2 : TSt := ⟨[.d (.l), .d (.i .i64), .d (.b), .d (.i .i64), .any, .undef, .d (.l), .d (.i .i64), .d (.i .i64), .d (.b), .any, .any], []⟩
def L67o0 (m : Nat) (vs : List Vr) (K : Cont (List DV × List (List D))) : Rs := l67o0 (vL vs 0) (vI vs 1) (vB vs 2) (vL vs 5) (vI vs 6) (fun n34 n35 b36 b37 b38 n39 n40 n41 n42 s43 s44 n45 n46 s47 => K .ret (fillS X67o0e1 [.l (vL vs 0), .i (vI vs 1), .b (false), .i (n34), .i (n35), .l (vL vs 5), .i (vI vs 6), .i (n35), .b (b36), .b (b37), .b (b38), .i (n39), .i (n40), .i (n41), .i (n42), .s (s43), .s (s44), .i (n45), .i (n46), .s (s47)])) (fun n48 v49 n50 b51 v52 v53 => K (.exit 0) (fillS X67o0e2 [.l (vL vs 0), .i (vI vs 1), .b (vB vs 2), .i (n48), .v (v49), .l (vL vs 5), .i (vI vs 6), .i (n50), .b (b51), .v (v52), .v (v53)])) m (vI vs 3) (vV vs 4) (vI vs 7) (vV vs 8) (vV vs 9) (vV vs 10)
def ST67 : List (Nat × (St → Cont (List DV × List (List D)) → Rs)) := [(0, sumT T67o0 (L67o0 KK))]
noncomputable def b67o0 : Code := match nodeAt c67 0 with | some (.loop a) => a | _ => .skip
theorem q67o0 : ∀ m vs K, L67o0 (m + 1) vs K = denK C67 (lkS ST67) b67o0 1 (fillS T67o0 vs) (loopK T67o0 (L67o0 m) K) := fun m vs K => by kernel_rfl
theorem o67o0 : SumOk C67 KK (sumT T67o0 (L67o0 KK)) (.loop b67o0) := loop_ok T67o0 L67o0 (sums_of (t := ST67) ⟨fun _ _ h => absurd h (by decide), trivial⟩) (fun _ _ => rfl) q67o0
theorem r67 : ∀ vs, v67 vs = bodyK C67 (lkS ST67) Try.f67 (sig 67) c67 (fillAs A67 0 vs) := fun vs => by kernel_rfl
theorem ok67 : ∀ xs q, opt (g67 xs) = some q → evalBody Try.prog sig (Gd G dep (dep 67)) KK 67 xs = some q := fun xs q h => body_ok Try.func67 (c := c67) rfl A67 v67 (sums_of (C := C67) (t := ST67) ⟨sum_in (c' := .loop b67o0) (by kernel_rfl) o67o0, trivial⟩) r67 (opt_gOf h)
noncomputable def C31 : Ctx := ⟨Try.prog, sig, Gd G dep (dep 31), (sig 31).keep, (sig 31).ord⟩
noncomputable def c31 : Code := Try.f31.body.getD .skip
def ST31 : List (Nat × (St → Cont (List DV × List (List D)) → Rs)) := []
theorem r31 : ∀ vs, v31 vs = bodyK C31 (lkS ST31) Try.f31 (sig 31) c31 (fillAs A31 0 vs) := fun vs => by kernel_rfl
theorem ok31 : ∀ xs q, opt (g31 xs) = some q → evalBody Try.prog sig (Gd G dep (dep 31)) KK 31 xs = some q := fun xs q h => body_ok Try.func31 (c := c31) rfl A31 v31 (sums_of (C := C31) (t := ST31) trivial) r31 (opt_gOf h)
noncomputable def C91 : Ctx := ⟨Try.prog, sig, Gd G dep (dep 91), (sig 91).keep, (sig 91).ord⟩
noncomputable def c91 : Code := Try.f91.body.getD .skip
def T91o1 : TSt := ⟨[.d (.i .i64), .d (.s), .own 448, .d (.b), .any], [(448, .row 5 1)]⟩
def X91o1e1 : TSt := ⟨[.d (.i .i64), .d (.s), .own 448, .d (.b), .d (.b)], [(448, .row 5 1)]⟩
def L91o1 (m : Nat) (vs : List Vr) (K : Cont (List DV × List (List D))) : Rs := l91o1 (vS vs 1) (vB vs 2) (fun n16 b17 l18 => K (.exit 0) (fillS X91o1e1 [.i (n16), .s (vS vs 1), .b (vB vs 2), .b (b17), .l (l18)])) m (vI vs 0) (vV vs 3) (vL vs 4)
def ST91 : List (Nat × (St → Cont (List DV × List (List D)) → Rs)) := [(1, sumT T91o1 (L91o1 KK))]
noncomputable def b91o1 : Code := match nodeAt c91 1 with | some (.loop a) => a | _ => .skip
theorem q91o1 : ∀ m vs K, L91o1 (m + 1) vs K = denK C91 (lkS ST91) b91o1 2 (fillS T91o1 vs) (loopK T91o1 (L91o1 m) K) := fun m vs K => by kernel_rfl
theorem o91o1 : SumOk C91 KK (sumT T91o1 (L91o1 KK)) (.loop b91o1) := loop_ok T91o1 L91o1 (sums_of (t := ST91) ⟨fun _ _ h => absurd h (by decide), trivial⟩) (fun _ _ => rfl) q91o1
theorem r91 : ∀ vs, v91 vs = bodyK C91 (lkS ST91) Try.f91 (sig 91) c91 (fillAs A91 0 vs) := fun vs => by kernel_rfl
theorem ok91 : ∀ xs q, opt (g91 xs) = some q → evalBody Try.prog sig (Gd G dep (dep 91)) KK 91 xs = some q := fun xs q h => body_ok Try.func91 (c := c91) rfl A91 v91 (sums_of (C := C91) (t := ST91) ⟨sum_in (c' := .loop b91o1) (by kernel_rfl) o91o1, trivial⟩) r91 (opt_gOf h)
noncomputable def C82 : Ctx := ⟨Try.prog, sig, Gd G dep (dep 82), (sig 82).keep, (sig 82).ord⟩
noncomputable def c82 : Code := Try.f82.body.getD .skip
def T82o0 : TSt := ⟨[.d (.l), .d (.s), .d (.s), .any, .d (.l), .d (.i .i64), .d (.i .i64), .any], []⟩
def X82o0e1 : TSt := ⟨[.d (.l), .d (.s), .d (.s), .any, .d (.l), .d (.i .i64), .d (.i .i64), .d (.b)], []⟩
def L82o0 (m : Nat) (vs : List Vr) (K : Cont (List DV × List (List D))) : Rs := l82o0 (vL vs 0) (vS vs 1) (vL vs 4) (vI vs 5) (fun s24 v25 n26 b27 => K (.exit 0) (fillS X82o0e1 [.l (vL vs 0), .s (vS vs 1), .s (s24), .v (v25), .l (vL vs 4), .i (vI vs 5), .i (n26), .b (b27)])) m (vS vs 2) (vV vs 3) (vI vs 6) (vV vs 7)
def ST82 : List (Nat × (St → Cont (List DV × List (List D)) → Rs)) := [(0, sumT T82o0 (L82o0 KK))]
noncomputable def b82o0 : Code := match nodeAt c82 0 with | some (.loop a) => a | _ => .skip
theorem q82o0 : ∀ m vs K, L82o0 (m + 1) vs K = denK C82 (lkS ST82) b82o0 1 (fillS T82o0 vs) (loopK T82o0 (L82o0 m) K) := fun m vs K => by kernel_rfl
theorem o82o0 : SumOk C82 KK (sumT T82o0 (L82o0 KK)) (.loop b82o0) := loop_ok T82o0 L82o0 (sums_of (t := ST82) ⟨fun _ _ h => absurd h (by decide), trivial⟩) (fun _ _ => rfl) q82o0
theorem r82 : ∀ vs, v82 vs = bodyK C82 (lkS ST82) Try.f82 (sig 82) c82 (fillAs A82 0 vs) := fun vs => by kernel_rfl
theorem ok82 : ∀ xs q, opt (g82 xs) = some q → evalBody Try.prog sig (Gd G dep (dep 82)) KK 82 xs = some q := fun xs q h => body_ok Try.func82 (c := c82) rfl A82 v82 (sums_of (C := C82) (t := ST82) ⟨sum_in (c' := .loop b82o0) (by kernel_rfl) o82o0, trivial⟩) r82 (opt_gOf h)
noncomputable def C83 : Ctx := ⟨Try.prog, sig, Gd G dep (dep 83), (sig 83).keep, (sig 83).ord⟩
noncomputable def c83 : Code := Try.f83.body.getD .skip
def ST83 : List (Nat × (St → Cont (List DV × List (List D)) → Rs)) := []
theorem r83 : ∀ vs, v83 vs = bodyK C83 (lkS ST83) Try.f83 (sig 83) c83 (fillAs A83 0 vs) := fun vs => by kernel_rfl
theorem ok83 : ∀ xs q, opt (g83 xs) = some q → evalBody Try.prog sig (Gd G dep (dep 83)) KK 83 xs = some q := fun xs q h => body_ok Try.func83 (c := c83) rfl A83 v83 (sums_of (C := C83) (t := ST83) trivial) r83 (opt_gOf h)
noncomputable def C112 : Ctx := ⟨Try.prog, sig, Gd G dep (dep 112), (sig 112).keep, (sig 112).ord⟩
noncomputable def c112 : Code := Try.f112.body.getD .skip
def ST112 : List (Nat × (St → Cont (List DV × List (List D)) → Rs)) := []
theorem r112 : ∀ vs, v112 vs = bodyK C112 (lkS ST112) Try.f112 (sig 112) c112 (fillAs A112 0 vs) := fun vs => by kernel_rfl
theorem ok112 : ∀ xs q, opt (g112 xs) = some q → evalBody Try.prog sig (Gd G dep (dep 112)) KK 112 xs = some q := fun xs q h => body_ok Try.func112 (c := c112) rfl A112 v112 (sums_of (C := C112) (t := ST112) trivial) r112 (opt_gOf h)
noncomputable def C70 : Ctx := ⟨Try.prog, sig, Gd G dep (dep 70), (sig 70).keep, (sig 70).ord⟩
noncomputable def c70 : Code := Try.f70.body.getD .skip
def ST70 : List (Nat × (St → Cont (List DV × List (List D)) → Rs)) := []
theorem r70 : ∀ vs, v70 vs = bodyK C70 (lkS ST70) Try.f70 (sig 70) c70 (fillAs A70 0 vs) := fun vs => by kernel_rfl
theorem ok70 : ∀ xs q, opt (g70 xs) = some q → evalBody Try.prog sig (Gd G dep (dep 70)) KK 70 xs = some q := fun xs q h => body_ok Try.func70 (c := c70) rfl A70 v70 (sums_of (C := C70) (t := ST70) trivial) r70 (opt_gOf h)
noncomputable def C42 : Ctx := ⟨Try.prog, sig, Gd G dep (dep 42), (sig 42).keep, (sig 42).ord⟩
noncomputable def c42 : Code := Try.f42.body.getD .skip
def T42o1 : TSt := ⟨[.d (.l), .d (.s), .d (.s), .undef, .d (.b), .d (.l), .d (.i .i64), .d (.i .i64), .any], []⟩
def X42o1e1 : TSt := ⟨[.d (.l), .d (.s), .d (.s), .undef, .d (.b), .d (.l), .d (.i .i64), .d (.i .i64), .d (.b)], []⟩
def L42o1 (m : Nat) (vs : List Vr) (K : Cont (List DV × List (List D))) : Rs := l42o1 (vL vs 0) (vS vs 1) (vB vs 3) (vL vs 4) (vI vs 5) (fun s25 n26 b27 => K (.exit 0) (fillS X42o1e1 [.l (vL vs 0), .s (vS vs 1), .s (s25), .b (vB vs 3), .l (vL vs 4), .i (vI vs 5), .i (n26), .b (b27)])) m (vS vs 2) (vI vs 6) (vV vs 7)
def ST42 : List (Nat × (St → Cont (List DV × List (List D)) → Rs)) := [(1, sumT T42o1 (L42o1 KK))]
noncomputable def b42o1 : Code := match nodeAt c42 1 with | some (.loop a) => a | _ => .skip
theorem q42o1 : ∀ m vs K, L42o1 (m + 1) vs K = denK C42 (lkS ST42) b42o1 2 (fillS T42o1 vs) (loopK T42o1 (L42o1 m) K) := fun m vs K => by kernel_rfl
theorem o42o1 : SumOk C42 KK (sumT T42o1 (L42o1 KK)) (.loop b42o1) := loop_ok T42o1 L42o1 (sums_of (t := ST42) ⟨fun _ _ h => absurd h (by decide), trivial⟩) (fun _ _ => rfl) q42o1
theorem r42 : ∀ vs, v42 vs = bodyK C42 (lkS ST42) Try.f42 (sig 42) c42 (fillAs A42 0 vs) := fun vs => by kernel_rfl
theorem ok42 : ∀ xs q, opt (g42 xs) = some q → evalBody Try.prog sig (Gd G dep (dep 42)) KK 42 xs = some q := fun xs q h => body_ok Try.func42 (c := c42) rfl A42 v42 (sums_of (C := C42) (t := ST42) ⟨sum_in (c' := .loop b42o1) (by kernel_rfl) o42o1, trivial⟩) r42 (opt_gOf h)
noncomputable def C65 : Ctx := ⟨Try.prog, sig, Gd G dep (dep 65), (sig 65).keep, (sig 65).ord⟩
noncomputable def c65 : Code := Try.f65.body.getD .skip
def ST65 : List (Nat × (St → Cont (List DV × List (List D)) → Rs)) := []
theorem r65 : ∀ vs, v65 vs = bodyK C65 (lkS ST65) Try.f65 (sig 65) c65 (fillAs A65 0 vs) := fun vs => by kernel_rfl
theorem ok65 : ∀ xs q, opt (g65 xs) = some q → evalBody Try.prog sig (Gd G dep (dep 65)) KK 65 xs = some q := fun xs q h => body_ok Try.func65 (c := c65) rfl A65 v65 (sums_of (C := C65) (t := ST65) trivial) r65 (opt_gOf h)
noncomputable def C68 : Ctx := ⟨Try.prog, sig, Gd G dep (dep 68), (sig 68).keep, (sig 68).ord⟩
noncomputable def c68 : Code := Try.f68.body.getD .skip
def ST68 : List (Nat × (St → Cont (List DV × List (List D)) → Rs)) := []
theorem r68 : ∀ vs, v68 vs = bodyK C68 (lkS ST68) Try.f68 (sig 68) c68 (fillAs A68 0 vs) := fun vs => by kernel_rfl
theorem ok68 : ∀ xs q, opt (g68 xs) = some q → evalBody Try.prog sig (Gd G dep (dep 68)) KK 68 xs = some q := fun xs q h => body_ok Try.func68 (c := c68) rfl A68 v68 (sums_of (C := C68) (t := ST68) trivial) r68 (opt_gOf h)
noncomputable def C32 : Ctx := ⟨Try.prog, sig, Gd G dep (dep 32), (sig 32).keep, (sig 32).ord⟩
noncomputable def c32 : Code := Try.f32.body.getD .skip
def T32o1 : TSt := ⟨[.d (.l), .d (.l), .d (.b), .d (.i .i64), .d (.b), .any, .any], []⟩
def X32o1e1 : TSt := ⟨[.d (.l), .d (.l), .d (.b), .d (.i .i64), .d (.b), .d (.b), .d (.b)], []⟩
def X32o1e2 : TSt := ⟨[.d (.l), .d (.l), .d (.b), .d (.i .i64), .d (.b), .d (.b), .any], []⟩
def L32o1 (m : Nat) (vs : List Vr) (K : Cont (List DV × List (List D))) : Rs := l32o1 (vL vs 0) (vL vs 1) (vB vs 2) (vB vs 4) (fun n22 b23 b24 => K .ret (fillS X32o1e1 [.l (vL vs 0), .l (vL vs 1), .b (false), .i (n22), .b (vB vs 4), .b (b23), .b (b24)])) (fun n25 b26 v27 => K (.exit 0) (fillS X32o1e2 [.l (vL vs 0), .l (vL vs 1), .b (vB vs 2), .i (n25), .b (vB vs 4), .b (b26), .v (v27)])) m (vI vs 3) (vV vs 5) (vV vs 6)
def ST32 : List (Nat × (St → Cont (List DV × List (List D)) → Rs)) := [(1, sumT T32o1 (L32o1 KK))]
noncomputable def b32o1 : Code := match nodeAt c32 1 with | some (.loop a) => a | _ => .skip
theorem q32o1 : ∀ m vs K, L32o1 (m + 1) vs K = denK C32 (lkS ST32) b32o1 2 (fillS T32o1 vs) (loopK T32o1 (L32o1 m) K) := fun m vs K => by kernel_rfl
theorem o32o1 : SumOk C32 KK (sumT T32o1 (L32o1 KK)) (.loop b32o1) := loop_ok T32o1 L32o1 (sums_of (t := ST32) ⟨fun _ _ h => absurd h (by decide), trivial⟩) (fun _ _ => rfl) q32o1
theorem r32 : ∀ vs, v32 vs = bodyK C32 (lkS ST32) Try.f32 (sig 32) c32 (fillAs A32 0 vs) := fun vs => by kernel_rfl
theorem ok32 : ∀ xs q, opt (g32 xs) = some q → evalBody Try.prog sig (Gd G dep (dep 32)) KK 32 xs = some q := fun xs q h => body_ok Try.func32 (c := c32) rfl A32 v32 (sums_of (C := C32) (t := ST32) ⟨sum_in (c' := .loop b32o1) (by kernel_rfl) o32o1, trivial⟩) r32 (opt_gOf h)
noncomputable def C9 : Ctx := ⟨Try.prog, sig, Gd G dep (dep 9), (sig 9).keep, (sig 9).ord⟩
noncomputable def c9 : Code := Try.f9.body.getD .skip
def ST9 : List (Nat × (St → Cont (List DV × List (List D)) → Rs)) := []
theorem r9 : ∀ vs, v9 vs = bodyK C9 (lkS ST9) Try.f9 (sig 9) c9 (fillAs A9 0 vs) := fun vs => by kernel_rfl
theorem ok9 : ∀ xs q, opt (g9 xs) = some q → evalBody Try.prog sig (Gd G dep (dep 9)) KK 9 xs = some q := fun xs q h => body_ok Try.func9 (c := c9) rfl A9 v9 (sums_of (C := C9) (t := ST9) trivial) r9 (opt_gOf h)
theorem fn_ok : ∀ f ∈ [23, 15, 28, 25, 17, 30, 60, 61, 16, 66, 29, 89, 110, 111, 69, 81, 41, 62, 63, 18, 67, 31, 91, 82, 83, 112, 70, 42, 65, 68, 32, 9], FnOk Try.prog sig f := fun f h => fnOk_of (List.all_eq_true.1 (show [23, 15, 28, 25, 17, 30, 60, 61, 16, 66, 29, 89, 110, 111, 69, 81, 41, 62, 63, 18, 67, 31, 91, 82, 83, 112, 70, 42, 65, 68, 32, 9].all (fnOkB Try.prog sig) = true by kernel_rfl) f h)
theorem all_ok : AllG (fun f xs q => FnOk Try.prog sig f ∧ evalBody Try.prog sig (Gd G dep (dep f)) KK f xs = some q) gT :=
  ⟨fun xs q h => ⟨fn_ok 23 (by simp), ok23 xs q h⟩, fun xs q h => ⟨fn_ok 15 (by simp), ok15 xs q h⟩, fun xs q h => ⟨fn_ok 28 (by simp), ok28 xs q h⟩, fun xs q h => ⟨fn_ok 25 (by simp), ok25 xs q h⟩, fun xs q h => ⟨fn_ok 17 (by simp), ok17 xs q h⟩, fun xs q h => ⟨fn_ok 30 (by simp), ok30 xs q h⟩, fun xs q h => ⟨fn_ok 60 (by simp), ok60 xs q h⟩, fun xs q h => ⟨fn_ok 61 (by simp), ok61 xs q h⟩, fun xs q h => ⟨fn_ok 16 (by simp), ok16 xs q h⟩, fun xs q h => ⟨fn_ok 66 (by simp), ok66 xs q h⟩, fun xs q h => ⟨fn_ok 29 (by simp), ok29 xs q h⟩, fun xs q h => ⟨fn_ok 89 (by simp), ok89 xs q h⟩, fun xs q h => ⟨fn_ok 110 (by simp), ok110 xs q h⟩, fun xs q h => ⟨fn_ok 111 (by simp), ok111 xs q h⟩, fun xs q h => ⟨fn_ok 69 (by simp), ok69 xs q h⟩, fun xs q h => ⟨fn_ok 81 (by simp), ok81 xs q h⟩, fun xs q h => ⟨fn_ok 41 (by simp), ok41 xs q h⟩, fun xs q h => ⟨fn_ok 62 (by simp), ok62 xs q h⟩, fun xs q h => ⟨fn_ok 63 (by simp), ok63 xs q h⟩, fun xs q h => ⟨fn_ok 18 (by simp), ok18 xs q h⟩, fun xs q h => ⟨fn_ok 67 (by simp), ok67 xs q h⟩, fun xs q h => ⟨fn_ok 31 (by simp), ok31 xs q h⟩, fun xs q h => ⟨fn_ok 91 (by simp), ok91 xs q h⟩, fun xs q h => ⟨fn_ok 82 (by simp), ok82 xs q h⟩, fun xs q h => ⟨fn_ok 83 (by simp), ok83 xs q h⟩, fun xs q h => ⟨fn_ok 112 (by simp), ok112 xs q h⟩, fun xs q h => ⟨fn_ok 70 (by simp), ok70 xs q h⟩, fun xs q h => ⟨fn_ok 42 (by simp), ok42 xs q h⟩, fun xs q h => ⟨fn_ok 65 (by simp), ok65 xs q h⟩, fun xs q h => ⟨fn_ok 68 (by simp), ok68 xs q h⟩, fun xs q h => ⟨fn_ok 32 (by simp), ok32 xs q h⟩, fun xs q h => ⟨fn_ok 9 (by simp), ok9 xs q h⟩, trivial⟩
theorem G_ok (f : Nat) : SpecOk Try.prog (sig f) (fun xs => opt (G f xs)) f := G_spec (by kernel_rfl) (allG_of all_ok) f
end
end Go.Den.L9
