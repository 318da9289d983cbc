/- The functions' table, and that each is what its twin says. Printed by tw.py. -/
import Derived.Test.YtkokejemgekfaaaL11Tw
import Derived.Test.YtkokejemgekfaaaProg
import Derived.KernelRfl
set_option linter.unusedVariables false
namespace Go.Den.L11
open Go Go.Proofs
noncomputable section
set_option maxRecDepth 100000
def sg113 : Sig := ⟨[.bor, .bor], .sc [.one (.i .i64 0)], [0, 1, 2, 4, 11], []⟩
def sg71 : Sig := ⟨[.bor, .bor], .sc [.one (.i .i64 0)], [0, 1, 4, 5, 11, 15, 25], []⟩
def sg36 : Sig := ⟨[.bor, .bor], .sc [.one (.i .i64 0)], [0, 1, 2, 4, 10, 17], []⟩
def sg115 : Sig := ⟨[.bor], .sc [.agg [.i .i64 0, .s ⟨#[]⟩]], [0, 1, 2, 3], []⟩
def sg76 : Sig := ⟨[.bor], .fresh [[some (119, 2)]], [0, 2, 3, 4, 11], []⟩
def sg38 : Sig := ⟨[.bor], .fresh [[none, none, none, none, none, none, none, none, some (119, 2), none]], [0, 1, 2, 3], []⟩
def sg60 : Sig := ⟨[.bor, .bor, .bor], .sc [.one (.b false)], [0, 1, 2, 6], []⟩
def sg72 : Sig := ⟨[.bor], .sc [.one (.b false)], [0, 2], []⟩
def sg73 : Sig := ⟨[.bor, .bor], .sc [.one (.b false)], [0, 1, 4, 6], []⟩
def sg74 : Sig := ⟨[.bor, .bor, .bor], .sc [.one (.b false)], [0, 1, 2, 6, 7, 9, 13, 33], []⟩
def sg114 : Sig := ⟨[.bor, .bor], .sc [.one (.b false)], [0, 1, 4, 5, 10, 14, 25], [(6, [(0, 0, []), (1, 0, []), (2, 0, []), (3, 0, []), (4, 0, []), (5, 0, []), (6, 0, []), (7, 0, []), (8, 0, [])])]⟩
def sg75 : Sig := ⟨[.bor, .bor], .sc [.one (.b false)], [0, 1, 2, 3, 4, 65], []⟩
def sg37 : Sig := ⟨[.bor], .sc [.one (.b false)], [0, 1, 2, 3, 4, 5, 6, 32, 40, 41, 64, 74, 132, 146], []⟩
def sg89 : Sig := ⟨[.bor], .sc [.one (.s ⟨#[]⟩)], [0, 2, 3, 6, 9], []⟩
def sg90 : Sig := ⟨[.bor], .sc [.one (.i .i64 0)], [0, 2, 3], []⟩
def sg48 : Sig := ⟨[.bor], .sc [.one (.s ⟨#[]⟩)], [0, 1, 2, 3, 4, 7, 49], [(3, [(0, 0, []), (1, 0, []), (2, 0, []), (3, 0, []), (4, 0, []), (5, 0, []), (6, 0, []), (7, 0, []), (8, 0, []), (9, 0, []), (10, 0, []), (11, 0, []), (12, 0, []), (13, 0, []), (14, 0, []), (15, 0, []), (16, 0, []), (17, 0, []), (18, 0, []), (19, 0, []), (20, 0, []), (21, 0, []), (22, 0, []), (23, 0, []), (24, 0, []), (25, 0, []), (26, 0, []), (27, 0, []), (28, 0, []), (29, 0, []), (30, 0, []), (31, 0, []), (32, 0, []), (33, 0, []), (34, 0, []), (35, 0, []), (36, 0, []), (37, 0, [])]), (7, [(0, 0, []), (1, 0, []), (2, 0, []), (3, 0, []), (4, 0, []), (5, 0, []), (6, 0, []), (7, 0, []), (8, 0, []), (9, 0, []), (10, 0, []), (11, 0, []), (12, 0, []), (13, 0, []), (14, 0, []), (15, 0, []), (16, 0, []), (17, 0, []), (18, 0, []), (19, 0, []), (20, 0, []), (21, 0, []), (22, 0, []), (23, 0, []), (24, 0, []), (25, 1, [])])]⟩
def sg62 : Sig := ⟨[.bor, .bor, .bor], .sc [.one (.b false)], [0, 1, 2, 6], []⟩
def sg77 : Sig := ⟨[.bor, .bor], .sc [.one (.b false)], [0, 1, 4], []⟩
def sg78 : Sig := ⟨[.rptr 10], .sc [.one (.b false)], [0, 2, 3, 5, 14, 15, 16, 17, 34], [(5, [(0, 0, []), (1, 0, []), (2, 0, []), (3, 0, []), (4, 0, []), (5, 0, []), (6, 0, []), (7, 0, []), (8, 0, []), (9, 0, []), (10, 0, []), (11, 0, []), (12, 0, []), (13, 0, []), (14, 0, [])]), (9, [(0, 0, []), (1, 0, []), (2, 0, []), (3, 0, []), (4, 0, []), (5, 0, []), (6, 0, []), (7, 0, []), (8, 0, []), (9, 0, []), (10, 0, []), (11, 0, []), (12, 0, []), (13, 0, []), (14, 0, []), (15, 0, []), (16, 0, []), (17, 0, []), (18, 0, []), (19, 0, [])])]⟩
def sg116 : Sig := ⟨[.bor, .bor], .sc [.one (.b false)], [0, 1, 4, 5, 10, 12, 13, 14, 24], [(6, [(0, 0, []), (1, 0, []), (2, 0, []), (3, 0, []), (4, 0, []), (5, 0, []), (6, 0, []), (7, 0, []), (8, 0, [])])]⟩
def sg79 : Sig := ⟨[.bor, .bor], .sc [.one (.b false)], [0, 1, 2, 3, 4], []⟩
def sg39 : Sig := ⟨[.bor], .sc [.one (.b false)], [0, 1, 2, 3, 4, 35, 36, 59, 64, 101, 115], [(6, [(0, 0, []), (1, 0, []), (2, 0, []), (3, 0, []), (4, 0, []), (5, 1, [2, 3]), (6, 0, []), (7, 1, [])]), (11, [(0, 0, []), (1, 0, []), (2, 0, []), (3, 0, []), (4, 0, []), (5, 0, []), (6, 0, []), (7, 0, []), (8, 0, []), (9, 1, [2, 3, 4, 5, 6, 7]), (10, 0, []), (11, 1, [4, 5, 6, 7]), (12, 0, []), (13, 1, [6, 7]), (14, 0, []), (15, 1, [])]), (14, [(0, 0, []), (1, 0, []), (2, 0, []), (3, 0, []), (4, 0, []), (5, 1, [2, 3]), (6, 0, []), (7, 1, [])]), (17, [(0, 0, []), (1, 0, []), (2, 0, []), (3, 0, []), (4, 0, []), (5, 0, []), (6, 0, []), (7, 1, [2, 3, 4, 5]), (8, 0, []), (9, 1, [4, 5]), (10, 0, []), (11, 1, [])])]⟩
def sg91 : Sig := ⟨[.bor], .sc [.one (.s ⟨#[]⟩)], [0, 2, 3, 6, 9], []⟩
def sg82 : Sig := ⟨[.bor], .sc [.one (.s ⟨#[]⟩)], [0, 2, 3, 5, 6, 7, 8, 9], []⟩
def sg83 : Sig := ⟨[.bor], .sc [.one (.s ⟨#[]⟩)], [0, 2], []⟩
def sg49 : Sig := ⟨[.bor], .sc [.one (.s ⟨#[]⟩)], [0, 1, 2, 3, 4, 6, 9, 11, 34, 35, 36, 37], [(10, [(0, 0, []), (1, 0, []), (2, 0, []), (3, 0, []), (4, 0, []), (5, 0, []), (6, 0, []), (7, 0, []), (8, 0, []), (9, 1, [])])]⟩
def sg117 : Sig := ⟨[.bor, .bor], .sc [.one (.b false)], [0, 1, 2, 3, 4, 9, 14], []⟩
def sg80 : Sig := ⟨[.bor, .bor], .sc [.one (.b false)], [0, 1, 4, 5, 10, 14, 26], [(6, [(0, 0, []), (1, 0, []), (2, 0, []), (3, 0, []), (4, 0, []), (5, 0, []), (6, 0, []), (7, 0, []), (8, 0, []), (9, 0, [])])]⟩
def sg40 : Sig := ⟨[.bor, .bor], .sc [.one (.b false)], [0, 1, 2, 3, 4, 9, 14, 19, 24, 29, 34, 39, 44, 50, 55], []⟩
def sg11 : Sig := ⟨[.bor], .sc [.one (.b false)], [0, 1, 2, 3, 4, 5, 6, 11, 21, 26], [(10, [(0, 0, []), (1, 0, []), (2, 1, [0]), (3, 0, []), (4, 0, [])])]⟩
def sig : Nat → Sig := lkF ⟨[], .fresh [], [], []⟩ [(113, sg113), (71, sg71), (36, sg36), (115, sg115), (76, sg76), (38, sg38), (60, sg60), (72, sg72), (73, sg73), (74, sg74), (114, sg114), (75, sg75), (37, sg37), (89, sg89), (90, sg90), (48, sg48), (62, sg62), (77, sg77), (78, sg78), (116, sg116), (79, sg79), (39, sg39), (91, sg91), (82, sg82), (83, sg83), (49, sg49), (117, sg117), (80, sg80), (40, sg40), (11, sg11)]
def dep : Nat → Nat := lkF 0 [(113, 1), (71, 2), (36, 3), (115, 1), (76, 2), (38, 3), (60, 1), (72, 2), (73, 2), (74, 2), (114, 1), (75, 2), (37, 3), (89, 2), (90, 1), (48, 4), (62, 1), (77, 2), (78, 2), (116, 1), (79, 2), (39, 3), (91, 2), (82, 3), (83, 3), (49, 4), (117, 1), (80, 2), (40, 3), (11, 5)]
def gT : List (Nat × (List DV → Bool × List DV × List (List D))) := [(113, g113), (71, g71), (36, g36), (115, g115), (76, g76), (38, g38), (60, g60), (72, g72), (73, g73), (74, g74), (114, g114), (75, g75), (37, g37), (89, g89), (90, g90), (48, g48), (62, g62), (77, g77), (78, g78), (116, g116), (79, g79), (39, g39), (91, g91), (82, g82), (83, g83), (49, g49), (117, g117), (80, g80), (40, g40), (11, g11)]
def G : Nat → List DV → Bool × List DV × List (List D) := lkF (fun _ => (false, [], [])) gT
noncomputable def C113 : Ctx := ⟨Try.prog, sig, Gd G dep (dep 113), (sig 113).keep, (sig 113).ord⟩
noncomputable def c113 : Code := Try.f113.body.getD .skip
def ST113 : List (Nat × (St → Cont (List DV × List (List D)) → Rs)) := []
theorem r113 : ∀ vs, v113 vs = bodyK C113 (lkS ST113) Try.f113 (sig 113) c113 (fillAs A113 0 vs) := fun vs => by kernel_rfl
theorem ok113 : ∀ xs q, opt (g113 xs) = some q → evalBody Try.prog sig (Gd G dep (dep 113)) KK 113 xs = some q := fun xs q h => body_ok Try.func113 (c := c113) rfl A113 v113 (sums_of (C := C113) (t := ST113) trivial) r113 (opt_gOf h)
noncomputable def C71 : Ctx := ⟨Try.prog, sig, Gd G dep (dep 71), (sig 71).keep, (sig 71).ord⟩
noncomputable def c71 : Code := Try.f71.body.getD .skip
def T71o1 : TSt := ⟨[.d (.l), .d (.i .i64), .d (.i .i64), .d (.i .i64), .d (.b), .any, .any], []⟩
def X71o1e1 : TSt := ⟨[.d (.l), .d (.i .i64), .d (.i .i64), .d (.i .i64), .d (.b), .d (.b), .d (.b)], []⟩
def X71o1e2 : TSt := ⟨[.d (.l), .d (.i .i64), .d (.i .i64), .d (.i .i64), .d (.b), .d (.b), .any], []⟩
def L71o1 (m : Nat) (vs : List Vr) (K : Cont (List DV × List (List D))) : Rs := l71o1 (vL vs 0) (vI vs 2) (vB vs 4) (fun n22 n23 b24 b25 => K .ret (fillS X71o1e1 [.l (vL vs 0), .i (n22), .i ((-1)), .i (n23), .b (vB vs 4), .b (b24), .b (b25)])) (fun n26 n27 b28 v29 => K (.exit 0) (fillS X71o1e2 [.l (vL vs 0), .i (n26), .i (vI vs 2), .i (n27), .b (vB vs 4), .b (b28), .v (v29)])) m (vI vs 1) (vI vs 3) (vV vs 5) (vV vs 6)
def ST71 : List (Nat × (St → Cont (List DV × List (List D)) → Rs)) := [(1, sumT T71o1 (L71o1 KK))]
noncomputable def b71o1 : Code := match nodeAt c71 1 with | some (.loop a) => a | _ => .skip
theorem q71o1 : ∀ m vs K, L71o1 (m + 1) vs K = denK C71 (lkS ST71) b71o1 2 (fillS T71o1 vs) (loopK T71o1 (L71o1 m) K) := fun m vs K => by kernel_rfl
theorem o71o1 : SumOk C71 KK (sumT T71o1 (L71o1 KK)) (.loop b71o1) := loop_ok T71o1 L71o1 (sums_of (t := ST71) ⟨fun _ _ h => absurd h (by decide), trivial⟩) (fun _ _ => rfl) q71o1
theorem r71 : ∀ vs, v71 vs = bodyK C71 (lkS ST71) Try.f71 (sig 71) c71 (fillAs A71 0 vs) := fun vs => by kernel_rfl
theorem ok71 : ∀ xs q, opt (g71 xs) = some q → evalBody Try.prog sig (Gd G dep (dep 71)) KK 71 xs = some q := fun xs q h => body_ok Try.func71 (c := c71) rfl A71 v71 (sums_of (C := C71) (t := ST71) ⟨sum_in (c' := .loop b71o1) (by kernel_rfl) o71o1, trivial⟩) r71 (opt_gOf h)
noncomputable def C36 : Ctx := ⟨Try.prog, sig, Gd G dep (dep 36), (sig 36).keep, (sig 36).ord⟩
noncomputable def c36 : Code := Try.f36.body.getD .skip
def ST36 : List (Nat × (St → Cont (List DV × List (List D)) → Rs)) := []
theorem r36 : ∀ vs, v36 vs = bodyK C36 (lkS ST36) Try.f36 (sig 36) c36 (fillAs A36 0 vs) := fun vs => by kernel_rfl
theorem ok36 : ∀ xs q, opt (g36 xs) = some q → evalBody Try.prog sig (Gd G dep (dep 36)) KK 36 xs = some q := fun xs q h => body_ok Try.func36 (c := c36) rfl A36 v36 (sums_of (C := C36) (t := ST36) trivial) r36 (opt_gOf h)
noncomputable def C115 : Ctx := ⟨Try.prog, sig, Gd G dep (dep 115), (sig 115).keep, (sig 115).ord⟩
noncomputable def c115 : Code := Try.f115.body.getD .skip
def ST115 : List (Nat × (St → Cont (List DV × List (List D)) → Rs)) := []
theorem r115 : ∀ vs, v115 vs = bodyK C115 (lkS ST115) Try.f115 (sig 115) c115 (fillAs A115 0 vs) := fun vs => by kernel_rfl
theorem ok115 : ∀ xs q, opt (g115 xs) = some q → evalBody Try.prog sig (Gd G dep (dep 115)) KK 115 xs = some q := fun xs q h => body_ok Try.func115 (c := c115) rfl A115 v115 (sums_of (C := C115) (t := ST115) trivial) r115 (opt_gOf h)
noncomputable def C76 : Ctx := ⟨Try.prog, sig, Gd G dep (dep 76), (sig 76).keep, (sig 76).ord⟩
noncomputable def c76 : Code := Try.f76.body.getD .skip
def T76o0 : TSt := ⟨[.d (.l), .nils, .own 448, .d (.i .i64), .any], [(448, .row 119 2)]⟩
def X76o0e1 : TSt := ⟨[.d (.l), .nils, .own 448, .d (.i .i64), .d (.b)], [(448, .row 119 2)]⟩
def L76o0 (m : Nat) (vs : List Vr) (K : Cont (List DV × List (List D))) : Rs := l76o0 (vL vs 0) (fun n13 b14 l15 => K (.exit 0) (fillS X76o0e1 [.l (vL vs 0), .i (n13), .b (b14), .l (l15)])) m (vI vs 1) (vV vs 2) (vL vs 3)
def ST76 : List (Nat × (St → Cont (List DV × List (List D)) → Rs)) := [(0, sumT T76o0 (L76o0 KK))]
noncomputable def b76o0 : Code := match nodeAt c76 0 with | some (.loop a) => a | _ => .skip
theorem q76o0 : ∀ m vs K, L76o0 (m + 1) vs K = denK C76 (lkS ST76) b76o0 1 (fillS T76o0 vs) (loopK T76o0 (L76o0 m) K) := fun m vs K => by kernel_rfl
theorem o76o0 : SumOk C76 KK (sumT T76o0 (L76o0 KK)) (.loop b76o0) := loop_ok T76o0 L76o0 (sums_of (t := ST76) ⟨fun _ _ h => absurd h (by decide), trivial⟩) (fun _ _ => rfl) q76o0
theorem r76 : ∀ vs, v76 vs = bodyK C76 (lkS ST76) Try.f76 (sig 76) c76 (fillAs A76 0 vs) := fun vs => by kernel_rfl
theorem ok76 : ∀ xs q, opt (g76 xs) = some q → evalBody Try.prog sig (Gd G dep (dep 76)) KK 76 xs = some q := fun xs q h => body_ok Try.func76 (c := c76) rfl A76 v76 (sums_of (C := C76) (t := ST76) ⟨sum_in (c' := .loop b76o0) (by kernel_rfl) o76o0, trivial⟩) r76 (opt_gOf h)
noncomputable def C38 : Ctx := ⟨Try.prog, sig, Gd G dep (dep 38), (sig 38).keep, (sig 38).ord⟩
noncomputable def c38 : Code := Try.f38.body.getD .skip
def ST38 : List (Nat × (St → Cont (List DV × List (List D)) → Rs)) := []
theorem r38 : ∀ vs, v38 vs = bodyK C38 (lkS ST38) Try.f38 (sig 38) c38 (fillAs A38 0 vs) := fun vs => by kernel_rfl
theorem ok38 : ∀ xs q, opt (g38 xs) = some q → evalBody Try.prog sig (Gd G dep (dep 38)) KK 38 xs = some q := fun xs q h => body_ok Try.func38 (c := c38) rfl A38 v38 (sums_of (C := C38) (t := ST38) trivial) r38 (opt_gOf h)
noncomputable def C60 : Ctx := ⟨Try.prog, sig, Gd G dep (dep 60), (sig 60).keep, (sig 60).ord⟩
noncomputable def c60 : Code := Try.f60.body.getD .skip
def ST60 : List (Nat × (St → Cont (List DV × List (List D)) → Rs)) := []
theorem r60 : ∀ vs, v60 vs = bodyK C60 (lkS ST60) Try.f60 (sig 60) c60 (fillAs A60 0 vs) := fun vs => by kernel_rfl
theorem ok60 : ∀ xs q, opt (g60 xs) = some q → evalBody Try.prog sig (Gd G dep (dep 60)) KK 60 xs = some q := fun xs q h => body_ok Try.func60 (c := c60) rfl A60 v60 (sums_of (C := C60) (t := ST60) trivial) r60 (opt_gOf h)
noncomputable def C72 : Ctx := ⟨Try.prog, sig, Gd G dep (dep 72), (sig 72).keep, (sig 72).ord⟩
noncomputable def c72 : Code := Try.f72.body.getD .skip
def ST72 : List (Nat × (St → Cont (List DV × List (List D)) → Rs)) := []
theorem r72 : ∀ vs, v72 vs = bodyK C72 (lkS ST72) Try.f72 (sig 72) c72 (fillAs A72 0 vs) := fun vs => by kernel_rfl
theorem ok72 : ∀ xs q, opt (g72 xs) = some q → evalBody Try.prog sig (Gd G dep (dep 72)) KK 72 xs = some q := fun xs q h => body_ok Try.func72 (c := c72) rfl A72 v72 (sums_of (C := C72) (t := ST72) trivial) r72 (opt_gOf h)
noncomputable def C73 : Ctx := ⟨Try.prog, sig, Gd G dep (dep 73), (sig 73).keep, (sig 73).ord⟩
noncomputable def c73 : Code := Try.f73.body.getD .skip
def ST73 : List (Nat × (St → Cont (List DV × List (List D)) → Rs)) := []
theorem r73 : ∀ vs, v73 vs = bodyK C73 (lkS ST73) Try.f73 (sig 73) c73 (fillAs A73 0 vs) := fun vs => by kernel_rfl
theorem ok73 : ∀ xs q, opt (g73 xs) = some q → evalBody Try.prog sig (Gd G dep (dep 73)) KK 73 xs = some q := fun xs q h => body_ok Try.func73 (c := c73) rfl A73 v73 (sums_of (C := C73) (t := ST73) trivial) r73 (opt_gOf h)
noncomputable def C74 : Ctx := ⟨Try.prog, sig, Gd G dep (dep 74), (sig 74).keep, (sig 74).ord⟩
noncomputable def c74 : Code := Try.f74.body.getD .skip
def T74o1 : TSt := ⟨[.d (.l), .d (.i .i64), .d (.i .i64), .d (.b), .d (.i .i64), .d (.b), .any, .any], []⟩
def X74o1e1 : TSt := ⟨[.d (.l), .d (.i .i64), .d (.i .i64), .d (.b), .d (.i .i64), .d (.b), .d (.b), .d (.b)], []⟩
def X74o1e2 : TSt := ⟨[.d (.l), .d (.i .i64), .d (.i .i64), .d (.b), .d (.i .i64), .d (.b), .d (.b), .any], []⟩
def L74o1 (m : Nat) (vs : List Vr) (K : Cont (List DV × List (List D))) : Rs := l74o1 (vL vs 0) (vI vs 2) (vB vs 3) (vB vs 5) (fun n27 n28 b29 b30 => K .ret (fillS X74o1e1 [.l (vL vs 0), .i (n27), .i (vI vs 2), .b (false), .i (n28), .b (vB vs 5), .b (b29), .b (b30)])) (fun n31 n32 b33 v34 => K (.exit 0) (fillS X74o1e2 [.l (vL vs 0), .i (n31), .i (vI vs 2), .b (vB vs 3), .i (n32), .b (vB vs 5), .b (b33), .v (v34)])) m (vI vs 1) (vI vs 4) (vV vs 6) (vV vs 7)
def ST74 : List (Nat × (St → Cont (List DV × List (List D)) → Rs)) := [(1, sumT T74o1 (L74o1 KK))]
noncomputable def b74o1 : Code := match nodeAt c74 1 with | some (.loop a) => a | _ => .skip
theorem q74o1 : ∀ m vs K, L74o1 (m + 1) vs K = denK C74 (lkS ST74) b74o1 2 (fillS T74o1 vs) (loopK T74o1 (L74o1 m) K) := fun m vs K => by kernel_rfl
theorem o74o1 : SumOk C74 KK (sumT T74o1 (L74o1 KK)) (.loop b74o1) := loop_ok T74o1 L74o1 (sums_of (t := ST74) ⟨fun _ _ h => absurd h (by decide), trivial⟩) (fun _ _ => rfl) q74o1
theorem r74 : ∀ vs, v74 vs = bodyK C74 (lkS ST74) Try.f74 (sig 74) c74 (fillAs A74 0 vs) := fun vs => by kernel_rfl
theorem ok74 : ∀ xs q, opt (g74 xs) = some q → evalBody Try.prog sig (Gd G dep (dep 74)) KK 74 xs = some q := fun xs q h => body_ok Try.func74 (c := c74) rfl A74 v74 (sums_of (C := C74) (t := ST74) ⟨sum_in (c' := .loop b74o1) (by kernel_rfl) o74o1, trivial⟩) r74 (opt_gOf h)
noncomputable def C114 : Ctx := ⟨Try.prog, sig, Gd G dep (dep 114), (sig 114).keep, (sig 114).ord⟩
noncomputable def c114 : Code := Try.f114.body.getD .skip
def T114o1 : TSt := ⟨[.d (.l), .d (.l), .d (.b), .d (.i .i64), .d (.b), .any, .any], []⟩
def X114o1e1 : TSt := ⟨[.d (.l), .d (.l), .d (.b), .d (.i .i64), .d (.b), .d (.b), .d (.b)], []⟩
def X114o1e2 : TSt := ⟨[.d (.l), .d (.l), .d (.b), .d (.i .i64), .d (.b), .d (.b), .any], []⟩
def L114o1 (m : Nat) (vs : List Vr) (K : Cont (List DV × List (List D))) : Rs := l114o1 (vL vs 0) (vL vs 1) (vB vs 2) (vB vs 4) (fun n22 b23 b24 => K .ret (fillS X114o1e1 [.l (vL vs 0), .l (vL vs 1), .b (false), .i (n22), .b (vB vs 4), .b (b23), .b (b24)])) (fun n25 b26 v27 => K (.exit 0) (fillS X114o1e2 [.l (vL vs 0), .l (vL vs 1), .b (vB vs 2), .i (n25), .b (vB vs 4), .b (b26), .v (v27)])) m (vI vs 3) (vV vs 5) (vV vs 6)
def ST114 : List (Nat × (St → Cont (List DV × List (List D)) → Rs)) := [(1, sumT T114o1 (L114o1 KK))]
noncomputable def b114o1 : Code := match nodeAt c114 1 with | some (.loop a) => a | _ => .skip
theorem q114o1 : ∀ m vs K, L114o1 (m + 1) vs K = denK C114 (lkS ST114) b114o1 2 (fillS T114o1 vs) (loopK T114o1 (L114o1 m) K) := fun m vs K => by kernel_rfl
theorem o114o1 : SumOk C114 KK (sumT T114o1 (L114o1 KK)) (.loop b114o1) := loop_ok T114o1 L114o1 (sums_of (t := ST114) ⟨fun _ _ h => absurd h (by decide), trivial⟩) (fun _ _ => rfl) q114o1
theorem r114 : ∀ vs, v114 vs = bodyK C114 (lkS ST114) Try.f114 (sig 114) c114 (fillAs A114 0 vs) := fun vs => by kernel_rfl
theorem ok114 : ∀ xs q, opt (g114 xs) = some q → evalBody Try.prog sig (Gd G dep (dep 114)) KK 114 xs = some q := fun xs q h => body_ok Try.func114 (c := c114) rfl A114 v114 (sums_of (C := C114) (t := ST114) ⟨sum_in (c' := .loop b114o1) (by kernel_rfl) o114o1, trivial⟩) r114 (opt_gOf h)
noncomputable def C75 : Ctx := ⟨Try.prog, sig, Gd G dep (dep 75), (sig 75).keep, (sig 75).ord⟩
noncomputable def c75 : Code := Try.f75.body.getD .skip
def ST75 : List (Nat × (St → Cont (List DV × List (List D)) → Rs)) := []
theorem r75 : ∀ vs, v75 vs = bodyK C75 (lkS ST75) Try.f75 (sig 75) c75 (fillAs A75 0 vs) := fun vs => by kernel_rfl
theorem ok75 : ∀ xs q, opt (g75 xs) = some q → evalBody Try.prog sig (Gd G dep (dep 75)) KK 75 xs = some q := fun xs q h => body_ok Try.func75 (c := c75) rfl A75 v75 (sums_of (C := C75) (t := ST75) trivial) r75 (opt_gOf h)
noncomputable def C37 : Ctx := ⟨Try.prog, sig, Gd G dep (dep 37), (sig 37).keep, (sig 37).ord⟩
noncomputable def c37 : Code := Try.f37.body.getD .skip
def ST37 : List (Nat × (St → Cont (List DV × List (List D)) → Rs)) := []
theorem r37 : ∀ vs, v37 vs = bodyK C37 (lkS ST37) Try.f37 (sig 37) c37 (fillAs A37 0 vs) := fun vs => by kernel_rfl
theorem ok37 : ∀ xs q, opt (g37 xs) = some q → evalBody Try.prog sig (Gd G dep (dep 37)) KK 37 xs = some q := fun xs q h => body_ok Try.func37 (c := c37) rfl A37 v37 (sums_of (C := C37) (t := ST37) trivial) r37 (opt_gOf h)
noncomputable def C89 : Ctx := ⟨Try.prog, sig, Gd G dep (dep 89), (sig 89).keep, (sig 89).ord⟩
noncomputable def c89 : Code := Try.f89.body.getD .skip
def T89o1 : TSt := ⟨[.d (.i .i64), .d (.s), .own 448, .d (.b), .any], [(448, .row 5 1)]⟩
def X89o1e1 : TSt := ⟨[.d (.i .i64), .d (.s), .own 448, .d (.b), .d (.b)], [(448, .row 5 1)]⟩
def L89o1 (m : Nat) (vs : List Vr) (K : Cont (List DV × List (List D))) : Rs := l89o1 (vS vs 1) (vB vs 2) (fun n16 b17 l18 => K (.exit 0) (fillS X89o1e1 [.i (n16), .s (vS vs 1), .b (vB vs 2), .b (b17), .l (l18)])) m (vI vs 0) (vV vs 3) (vL vs 4)
def ST89 : List (Nat × (St → Cont (List DV × List (List D)) → Rs)) := [(1, sumT T89o1 (L89o1 KK))]
noncomputable def b89o1 : Code := match nodeAt c89 1 with | some (.loop a) => a | _ => .skip
theorem q89o1 : ∀ m vs K, L89o1 (m + 1) vs K = denK C89 (lkS ST89) b89o1 2 (fillS T89o1 vs) (loopK T89o1 (L89o1 m) K) := fun m vs K => by kernel_rfl
theorem o89o1 : SumOk C89 KK (sumT T89o1 (L89o1 KK)) (.loop b89o1) := loop_ok T89o1 L89o1 (sums_of (t := ST89) ⟨fun _ _ h => absurd h (by decide), trivial⟩) (fun _ _ => rfl) q89o1
theorem r89 : ∀ vs, v89 vs = bodyK C89 (lkS ST89) Try.f89 (sig 89) c89 (fillAs A89 0 vs) := fun vs => by kernel_rfl
theorem ok89 : ∀ xs q, opt (g89 xs) = some q → evalBody Try.prog sig (Gd G dep (dep 89)) KK 89 xs = some q := fun xs q h => body_ok Try.func89 (c := c89) rfl A89 v89 (sums_of (C := C89) (t := ST89) ⟨sum_in (c' := .loop b89o1) (by kernel_rfl) o89o1, trivial⟩) r89 (opt_gOf h)
noncomputable def C90 : Ctx := ⟨Try.prog, sig, Gd G dep (dep 90), (sig 90).keep, (sig 90).ord⟩
noncomputable def c90 : Code := Try.f90.body.getD .skip
def ST90 : List (Nat × (St → Cont (List DV × List (List D)) → Rs)) := []
theorem r90 : ∀ vs, v90 vs = bodyK C90 (lkS ST90) Try.f90 (sig 90) c90 (fillAs A90 0 vs) := fun vs => by kernel_rfl
theorem ok90 : ∀ xs q, opt (g90 xs) = some q → evalBody Try.prog sig (Gd G dep (dep 90)) KK 90 xs = some q := fun xs q h => body_ok Try.func90 (c := c90) rfl A90 v90 (sums_of (C := C90) (t := ST90) trivial) r90 (opt_gOf h)
noncomputable def C48 : Ctx := ⟨Try.prog, sig, Gd G dep (dep 48), (sig 48).keep, (sig 48).ord⟩
noncomputable def c48 : Code := Try.f48.body.getD .skip
def T48o1 : TSt := ⟨[.agg [.d (.i .i64), .d (.i .i64), .d (.i .i64), .d (.i .i64), .d (.i .i64), .d (.i .i64), .d (.i .i64), .d (.b), .d (.l), .d (.s)], .ptr 64 0, .d (.s), .d (.s), .d (.i .i64), .d (.b), .any], [(64, .box [.d (.i .i64), .d (.i .i64), .d (.i .i64), .d (.i .i64), .d (.i .i64), .d (.i .i64), .d (.i .i64), .d (.b), .d (.l), .d (.s)])]⟩
def X48o1e1 : TSt := ⟨[.agg [.d (.i .i64), .d (.i .i64), .d (.i .i64), .d (.i .i64), .d (.i .i64), .d (.i .i64), .d (.i .i64), .d (.b), .d (.l), .d (.s)], .ptr 64 0, .d (.s), .d (.s), .d (.i .i64), .d (.b), .d (.b)], [(64, .box [.d (.i .i64), .d (.i .i64), .d (.i .i64), .d (.i .i64), .d (.i .i64), .d (.i .i64), .d (.i .i64), .d (.b), .d (.l), .d (.s)])]⟩
def L48o1 (m : Nat) (vs : List Vr) (K : Cont (List DV × List (List D))) : Rs := l48o1 (vI vs 0) (vI vs 1) (vI vs 2) (vI vs 3) (vI vs 4) (vI vs 5) (vI vs 6) (vB vs 7) (vL vs 8) (vS vs 9) (vS vs 10) (vB vs 13) (vI vs 15) (vI vs 16) (vI vs 17) (vI vs 18) (vI vs 19) (vI vs 20) (vI vs 21) (vB vs 22) (vL vs 23) (vS vs 24) (fun s85 n86 b87 => K (.exit 0) (fillS X48o1e1 [.i (vI vs 0), .i (vI vs 1), .i (vI vs 2), .i (vI vs 3), .i (vI vs 4), .i (vI vs 5), .i (vI vs 6), .b (vB vs 7), .l (vL vs 8), .s (vS vs 9), .s (vS vs 10), .s (s85), .i (n86), .b (vB vs 13), .b (b87), .i (vI vs 15), .i (vI vs 16), .i (vI vs 17), .i (vI vs 18), .i (vI vs 19), .i (vI vs 20), .i (vI vs 21), .b (vB vs 22), .l (vL vs 23), .s (vS vs 24)])) m (vS vs 11) (vI vs 12) (vV vs 14)
def ST48 : List (Nat × (St → Cont (List DV × List (List D)) → Rs)) := [(1, sumT T48o1 (L48o1 KK))]
noncomputable def b48o1 : Code := match nodeAt c48 1 with | some (.loop a) => a | _ => .skip
theorem q48o1 : ∀ m vs K, L48o1 (m + 1) vs K = denK C48 (lkS ST48) b48o1 2 (fillS T48o1 vs) (loopK T48o1 (L48o1 m) K) := fun m vs K => by kernel_rfl
theorem o48o1 : SumOk C48 KK (sumT T48o1 (L48o1 KK)) (.loop b48o1) := loop_ok T48o1 L48o1 (sums_of (t := ST48) ⟨fun _ _ h => absurd h (by decide), trivial⟩) (fun _ _ => rfl) q48o1
theorem r48 : ∀ vs, v48 vs = bodyK C48 (lkS ST48) Try.f48 (sig 48) c48 (fillAs A48 0 vs) := fun vs => by kernel_rfl
theorem ok48 : ∀ xs q, opt (g48 xs) = some q → evalBody Try.prog sig (Gd G dep (dep 48)) KK 48 xs = some q := fun xs q h => body_ok Try.func48 (c := c48) rfl A48 v48 (sums_of (C := C48) (t := ST48) ⟨sum_in (c' := .loop b48o1) (by kernel_rfl) o48o1, trivial⟩) r48 (opt_gOf h)
noncomputable def C62 : Ctx := ⟨Try.prog, sig, Gd G dep (dep 62), (sig 62).keep, (sig 62).ord⟩
noncomputable def c62 : Code := Try.f62.body.getD .skip
def ST62 : List (Nat × (St → Cont (List DV × List (List D)) → Rs)) := []
theorem r62 : ∀ vs, v62 vs = bodyK C62 (lkS ST62) Try.f62 (sig 62) c62 (fillAs A62 0 vs) := fun vs => by kernel_rfl
theorem ok62 : ∀ xs q, opt (g62 xs) = some q → evalBody Try.prog sig (Gd G dep (dep 62)) KK 62 xs = some q := fun xs q h => body_ok Try.func62 (c := c62) rfl A62 v62 (sums_of (C := C62) (t := ST62) trivial) r62 (opt_gOf h)
noncomputable def C77 : Ctx := ⟨Try.prog, sig, Gd G dep (dep 77), (sig 77).keep, (sig 77).ord⟩
noncomputable def c77 : Code := Try.f77.body.getD .skip
def ST77 : List (Nat × (St → Cont (List DV × List (List D)) → Rs)) := []
theorem r77 : ∀ vs, v77 vs = bodyK C77 (lkS ST77) Try.f77 (sig 77) c77 (fillAs A77 0 vs) := fun vs => by kernel_rfl
theorem ok77 : ∀ xs q, opt (g77 xs) = some q → evalBody Try.prog sig (Gd G dep (dep 77)) KK 77 xs = some q := fun xs q h => body_ok Try.func77 (c := c77) rfl A77 v77 (sums_of (C := C77) (t := ST77) trivial) r77 (opt_gOf h)
noncomputable def C78 : Ctx := ⟨Try.prog, sig, Gd G dep (dep 78), (sig 78).keep, (sig 78).ord⟩
noncomputable def c78 : Code := Try.f78.body.getD .skip
def T78o0 : TSt := ⟨[.pv [.i .i64, .i .i64, .i .i64, .i .i64, .i .i64, .i .i64, .i .i64, .b, .l, .s] 0, .d (.b), .d (.i .i64), .undef, .d (.l), .d (.i .i64), .d (.i .i64), .any, .any], []⟩
def X78o0e1 : TSt := ⟨[.pv [.i .i64, .i .i64, .i .i64, .i .i64, .i .i64, .i .i64, .i .i64, .b, .l, .s] 0, .d (.b), .d (.i .i64), .ptr 320 0, .d (.l), .d (.i .i64), .d (.i .i64), .d (.b), .d (.b)], [(320, .box [.d (.i .i64), .d (.s)])]⟩
def X78o0e2 : TSt := ⟨[.pv [.i .i64, .i .i64, .i .i64, .i .i64, .i .i64, .i .i64, .i .i64, .b, .l, .s] 0, .d (.b), .d (.i .i64), .undef, .d (.l), .d (.i .i64), .d (.i .i64), .d (.b), .any], []⟩
def L78o0 (m : Nat) (vs : List Vr) (K : Cont (List DV × List (List D))) : Rs := l78o0 (vI vs 0) (vI vs 1) (vI vs 2) (vI vs 3) (vI vs 4) (vI vs 5) (vI vs 6) (vB vs 7) (vL vs 8) (vS vs 9) (vB vs 10) (vL vs 12) (vI vs 13) (fun n60 n61 b62 b63 n64 s65 => K .ret (fillS X78o0e1 [.i (vI vs 0), .i (vI vs 1), .i (vI vs 2), .i (vI vs 3), .i (vI vs 4), .i (vI vs 5), .i (vI vs 6), .b (vB vs 7), .l (vL vs 8), .s (vS vs 9), .b (false), .i (n60), .l (vL vs 12), .i (vI vs 13), .i (n61), .b (b62), .b (b63), .i (n64), .s (s65)])) (fun n66 n67 b68 v69 => K (.exit 0) (fillS X78o0e2 [.i (vI vs 0), .i (vI vs 1), .i (vI vs 2), .i (vI vs 3), .i (vI vs 4), .i (vI vs 5), .i (vI vs 6), .b (vB vs 7), .l (vL vs 8), .s (vS vs 9), .b (vB vs 10), .i (n66), .l (vL vs 12), .i (vI vs 13), .i (n67), .b (b68), .v (v69)])) m (vI vs 11) (vI vs 14) (vV vs 15) (vV vs 16)
def ST78 : List (Nat × (St → Cont (List DV × List (List D)) → Rs)) := [(0, sumT T78o0 (L78o0 KK))]
noncomputable def b78o0 : Code := match nodeAt c78 0 with | some (.loop a) => a | _ => .skip
theorem q78o0 : ∀ m vs K, L78o0 (m + 1) vs K = denK C78 (lkS ST78) b78o0 1 (fillS T78o0 vs) (loopK T78o0 (L78o0 m) K) := fun m vs K => by kernel_rfl
theorem o78o0 : SumOk C78 KK (sumT T78o0 (L78o0 KK)) (.loop b78o0) := loop_ok T78o0 L78o0 (sums_of (t := ST78) ⟨fun _ _ h => absurd h (by decide), trivial⟩) (fun _ _ => rfl) q78o0
theorem r78 : ∀ vs, v78 vs = bodyK C78 (lkS ST78) Try.f78 (sig 78) c78 (fillAs A78 0 vs) := fun vs => by kernel_rfl
theorem ok78 : ∀ xs q, opt (g78 xs) = some q → evalBody Try.prog sig (Gd G dep (dep 78)) KK 78 xs = some q := fun xs q h => body_ok Try.func78 (c := c78) rfl A78 v78 (sums_of (C := C78) (t := ST78) ⟨sum_in (c' := .loop b78o0) (by kernel_rfl) o78o0, trivial⟩) r78 (opt_gOf h)
noncomputable def C116 : Ctx := ⟨Try.prog, sig, Gd G dep (dep 116), (sig 116).keep, (sig 116).ord⟩
noncomputable def c116 : Code := Try.f116.body.getD .skip
def T116o1 : TSt := ⟨[.d (.l), .d (.l), .d (.b), .any, .d (.b), .d (.i .i64), .d (.i .i64), .any, .any], []⟩
def X116o1e1 : TSt := ⟨[.d (.l), .d (.l), .d (.b), .d (.i .i64), .d (.b), .d (.i .i64), .d (.i .i64), .d (.b), .d (.b)], []⟩
def X116o1e2 : TSt := ⟨[.d (.l), .d (.l), .d (.b), .any, .d (.b), .d (.i .i64), .d (.i .i64), .d (.b), .any], []⟩
def L116o1 (m : Nat) (vs : List Vr) (K : Cont (List DV × List (List D))) : Rs := l116o1 (vL vs 0) (vL vs 1) (vB vs 2) (vB vs 4) (vI vs 5) (fun n27 b28 b29 => K .ret (fillS X116o1e1 [.l (vL vs 0), .l (vL vs 1), .b (false), .i (n27), .b (vB vs 4), .i (vI vs 5), .i (n27), .b (b28), .b (b29)])) (fun v30 n31 b32 v33 => K (.exit 0) (fillS X116o1e2 [.l (vL vs 0), .l (vL vs 1), .b (vB vs 2), .v (v30), .b (vB vs 4), .i (vI vs 5), .i (n31), .b (b32), .v (v33)])) m (vV vs 3) (vI vs 6) (vV vs 7) (vV vs 8)
def ST116 : List (Nat × (St → Cont (List DV × List (List D)) → Rs)) := [(1, sumT T116o1 (L116o1 KK))]
noncomputable def b116o1 : Code := match nodeAt c116 1 with | some (.loop a) => a | _ => .skip
theorem q116o1 : ∀ m vs K, L116o1 (m + 1) vs K = denK C116 (lkS ST116) b116o1 2 (fillS T116o1 vs) (loopK T116o1 (L116o1 m) K) := fun m vs K => by kernel_rfl
theorem o116o1 : SumOk C116 KK (sumT T116o1 (L116o1 KK)) (.loop b116o1) := loop_ok T116o1 L116o1 (sums_of (t := ST116) ⟨fun _ _ h => absurd h (by decide), trivial⟩) (fun _ _ => rfl) q116o1
theorem r116 : ∀ vs, v116 vs = bodyK C116 (lkS ST116) Try.f116 (sig 116) c116 (fillAs A116 0 vs) := fun vs => by kernel_rfl
theorem ok116 : ∀ xs q, opt (g116 xs) = some q → evalBody Try.prog sig (Gd G dep (dep 116)) KK 116 xs = some q := fun xs q h => body_ok Try.func116 (c := c116) rfl A116 v116 (sums_of (C := C116) (t := ST116) ⟨sum_in (c' := .loop b116o1) (by kernel_rfl) o116o1, trivial⟩) r116 (opt_gOf h)
noncomputable def C79 : Ctx := ⟨Try.prog, sig, Gd G dep (dep 79), (sig 79).keep, (sig 79).ord⟩
noncomputable def c79 : Code := Try.f79.body.getD .skip
def ST79 : List (Nat × (St → Cont (List DV × List (List D)) → Rs)) := []
theorem r79 : ∀ vs, v79 vs = bodyK C79 (lkS ST79) Try.f79 (sig 79) c79 (fillAs A79 0 vs) := fun vs => by kernel_rfl
theorem ok79 : ∀ xs q, opt (g79 xs) = some q → evalBody Try.prog sig (Gd G dep (dep 79)) KK 79 xs = some q := fun xs q h => body_ok Try.func79 (c := c79) rfl A79 v79 (sums_of (C := C79) (t := ST79) trivial) r79 (opt_gOf h)
noncomputable def C39 : Ctx := ⟨Try.prog, sig, Gd G dep (dep 39), (sig 39).keep, (sig 39).ord⟩
noncomputable def c39 : Code := Try.f39.body.getD .skip
def ST39 : List (Nat × (St → Cont (List DV × List (List D)) → Rs)) := []
theorem r39 : ∀ vs, v39 vs = bodyK C39 (lkS ST39) Try.f39 (sig 39) c39 (fillAs A39 0 vs) := fun vs => by kernel_rfl
theorem ok39 : ∀ xs q, opt (g39 xs) = some q → evalBody Try.prog sig (Gd G dep (dep 39)) KK 39 xs = some q := fun xs q h => body_ok Try.func39 (c := c39) rfl A39 v39 (sums_of (C := C39) (t := ST39) trivial) r39 (opt_gOf h)
noncomputable def C91 : Ctx := ⟨Try.prog, sig, Gd G dep (dep 91), (sig 91).keep, (sig 91).ord⟩
noncomputable def c91 : Code := Try.f91.body.getD .skip
def T91o1 : TSt := ⟨[.d (.i .i64), .d (.s), .own 448, .d (.b), .any], [(448, .row 5 1)]⟩
def X91o1e1 : TSt := ⟨[.d (.i .i64), .d (.s), .own 448, .d (.b), .d (.b)], [(448, .row 5 1)]⟩
def L91o1 (m : Nat) (vs : List Vr) (K : Cont (List DV × List (List D))) : Rs := l91o1 (vS vs 1) (vB vs 2) (fun n16 b17 l18 => K (.exit 0) (fillS X91o1e1 [.i (n16), .s (vS vs 1), .b (vB vs 2), .b (b17), .l (l18)])) m (vI vs 0) (vV vs 3) (vL vs 4)
def ST91 : List (Nat × (St → Cont (List DV × List (List D)) → Rs)) := [(1, sumT T91o1 (L91o1 KK))]
noncomputable def b91o1 : Code := match nodeAt c91 1 with | some (.loop a) => a | _ => .skip
theorem q91o1 : ∀ m vs K, L91o1 (m + 1) vs K = denK C91 (lkS ST91) b91o1 2 (fillS T91o1 vs) (loopK T91o1 (L91o1 m) K) := fun m vs K => by kernel_rfl
theorem o91o1 : SumOk C91 KK (sumT T91o1 (L91o1 KK)) (.loop b91o1) := loop_ok T91o1 L91o1 (sums_of (t := ST91) ⟨fun _ _ h => absurd h (by decide), trivial⟩) (fun _ _ => rfl) q91o1
theorem r91 : ∀ vs, v91 vs = bodyK C91 (lkS ST91) Try.f91 (sig 91) c91 (fillAs A91 0 vs) := fun vs => by kernel_rfl
theorem ok91 : ∀ xs q, opt (g91 xs) = some q → evalBody Try.prog sig (Gd G dep (dep 91)) KK 91 xs = some q := fun xs q h => body_ok Try.func91 (c := c91) rfl A91 v91 (sums_of (C := C91) (t := ST91) ⟨sum_in (c' := .loop b91o1) (by kernel_rfl) o91o1, trivial⟩) r91 (opt_gOf h)
noncomputable def C82 : Ctx := ⟨Try.prog, sig, Gd G dep (dep 82), (sig 82).keep, (sig 82).ord⟩
noncomputable def c82 : Code := Try.f82.body.getD .skip
def T82o0 : TSt := ⟨[.d (.l), .d (.s), .d (.s), .any, .d (.l), .d (.i .i64), .d (.i .i64), .any], []⟩
def X82o0e1 : TSt := ⟨[.d (.l), .d (.s), .d (.s), .any, .d (.l), .d (.i .i64), .d (.i .i64), .d (.b)], []⟩
def L82o0 (m : Nat) (vs : List Vr) (K : Cont (List DV × List (List D))) : Rs := l82o0 (vL vs 0) (vS vs 1) (vL vs 4) (vI vs 5) (fun s24 v25 n26 b27 => K (.exit 0) (fillS X82o0e1 [.l (vL vs 0), .s (vS vs 1), .s (s24), .v (v25), .l (vL vs 4), .i (vI vs 5), .i (n26), .b (b27)])) m (vS vs 2) (vV vs 3) (vI vs 6) (vV vs 7)
def ST82 : List (Nat × (St → Cont (List DV × List (List D)) → Rs)) := [(0, sumT T82o0 (L82o0 KK))]
noncomputable def b82o0 : Code := match nodeAt c82 0 with | some (.loop a) => a | _ => .skip
theorem q82o0 : ∀ m vs K, L82o0 (m + 1) vs K = denK C82 (lkS ST82) b82o0 1 (fillS T82o0 vs) (loopK T82o0 (L82o0 m) K) := fun m vs K => by kernel_rfl
theorem o82o0 : SumOk C82 KK (sumT T82o0 (L82o0 KK)) (.loop b82o0) := loop_ok T82o0 L82o0 (sums_of (t := ST82) ⟨fun _ _ h => absurd h (by decide), trivial⟩) (fun _ _ => rfl) q82o0
theorem r82 : ∀ vs, v82 vs = bodyK C82 (lkS ST82) Try.f82 (sig 82) c82 (fillAs A82 0 vs) := fun vs => by kernel_rfl
theorem ok82 : ∀ xs q, opt (g82 xs) = some q → evalBody Try.prog sig (Gd G dep (dep 82)) KK 82 xs = some q := fun xs q h => body_ok Try.func82 (c := c82) rfl A82 v82 (sums_of (C := C82) (t := ST82) ⟨sum_in (c' := .loop b82o0) (by kernel_rfl) o82o0, trivial⟩) r82 (opt_gOf h)
noncomputable def C83 : Ctx := ⟨Try.prog, sig, Gd G dep (dep 83), (sig 83).keep, (sig 83).ord⟩
noncomputable def c83 : Code := Try.f83.body.getD .skip
def ST83 : List (Nat × (St → Cont (List DV × List (List D)) → Rs)) := []
theorem r83 : ∀ vs, v83 vs = bodyK C83 (lkS ST83) Try.f83 (sig 83) c83 (fillAs A83 0 vs) := fun vs => by kernel_rfl
theorem ok83 : ∀ xs q, opt (g83 xs) = some q → evalBody Try.prog sig (Gd G dep (dep 83)) KK 83 xs = some q := fun xs q h => body_ok Try.func83 (c := c83) rfl A83 v83 (sums_of (C := C83) (t := ST83) trivial) r83 (opt_gOf h)
noncomputable def C49 : Ctx := ⟨Try.prog, sig, Gd G dep (dep 49), (sig 49).keep, (sig 49).ord⟩
noncomputable def c49 : Code := Try.f49.body.getD .skip
def T49o2 : TSt := ⟨[.agg [.d (.i .i64), .d (.i .i64), .d (.i .i64), .d (.i .i64), .d (.i .i64), .d (.i .i64), .d (.i .i64), .d (.b), .d (.l), .d (.s)], .ptr 64 0, .d (.s), .d (.i .i64), .d (.s), .undef, .d (.b), .d (.b), .d (.l), .d (.i .i64), .d (.i .i64), .any], [(64, .box [.d (.i .i64), .d (.i .i64), .d (.i .i64), .d (.i .i64), .d (.i .i64), .d (.i .i64), .d (.i .i64), .d (.b), .d (.l), .d (.s)]), (1920, .row 3 1)]⟩
def X49o2e1 : TSt := ⟨[.agg [.d (.i .i64), .d (.i .i64), .d (.i .i64), .d (.i .i64), .d (.i .i64), .d (.i .i64), .d (.i .i64), .d (.b), .d (.l), .d (.s)], .ptr 64 0, .d (.s), .d (.i .i64), .d (.s), .undef, .d (.b), .d (.b), .d (.l), .d (.i .i64), .d (.i .i64), .d (.b)], [(64, .box [.d (.i .i64), .d (.i .i64), .d (.i .i64), .d (.i .i64), .d (.i .i64), .d (.i .i64), .d (.i .i64), .d (.b), .d (.l), .d (.s)]), (1920, .row 3 1)]⟩
def L49o2 (m : Nat) (vs : List Vr) (K : Cont (List DV × List (List D))) : Rs := l49o2 (vI vs 0) (vI vs 1) (vI vs 2) (vI vs 3) (vI vs 4) (vI vs 5) (vI vs 6) (vB vs 7) (vL vs 8) (vS vs 9) (vS vs 10) (vI vs 11) (vB vs 13) (vB vs 14) (vL vs 15) (vI vs 16) (vI vs 19) (vI vs 20) (vI vs 21) (vI vs 22) (vI vs 23) (vI vs 24) (vI vs 25) (vB vs 26) (vL vs 27) (vS vs 28) (vL vs 29) (fun s101 n102 b103 => K (.exit 0) (fillS X49o2e1 [.i (vI vs 0), .i (vI vs 1), .i (vI vs 2), .i (vI vs 3), .i (vI vs 4), .i (vI vs 5), .i (vI vs 6), .b (vB vs 7), .l (vL vs 8), .s (vS vs 9), .s (vS vs 10), .i (vI vs 11), .s (s101), .b (vB vs 13), .b (vB vs 14), .l (vL vs 15), .i (vI vs 16), .i (n102), .b (b103), .i (vI vs 19), .i (vI vs 20), .i (vI vs 21), .i (vI vs 22), .i (vI vs 23), .i (vI vs 24), .i (vI vs 25), .b (vB vs 26), .l (vL vs 27), .s (vS vs 28), .l (vL vs 29)])) m (vS vs 12) (vI vs 17) (vV vs 18)
def ST49 : List (Nat × (St → Cont (List DV × List (List D)) → Rs)) := [(2, sumT T49o2 (L49o2 KK))]
noncomputable def b49o2 : Code := match nodeAt c49 2 with | some (.loop a) => a | _ => .skip
theorem q49o2 : ∀ m vs K, L49o2 (m + 1) vs K = denK C49 (lkS ST49) b49o2 3 (fillS T49o2 vs) (loopK T49o2 (L49o2 m) K) := fun m vs K => by kernel_rfl
theorem o49o2 : SumOk C49 KK (sumT T49o2 (L49o2 KK)) (.loop b49o2) := loop_ok T49o2 L49o2 (sums_of (t := ST49) ⟨fun _ _ h => absurd h (by decide), trivial⟩) (fun _ _ => rfl) q49o2
theorem r49 : ∀ vs, v49 vs = bodyK C49 (lkS ST49) Try.f49 (sig 49) c49 (fillAs A49 0 vs) := fun vs => by kernel_rfl
theorem ok49 : ∀ xs q, opt (g49 xs) = some q → evalBody Try.prog sig (Gd G dep (dep 49)) KK 49 xs = some q := fun xs q h => body_ok Try.func49 (c := c49) rfl A49 v49 (sums_of (C := C49) (t := ST49) ⟨sum_in (c' := .loop b49o2) (by kernel_rfl) o49o2, trivial⟩) r49 (opt_gOf h)
noncomputable def C117 : Ctx := ⟨Try.prog, sig, Gd G dep (dep 117), (sig 117).keep, (sig 117).ord⟩
noncomputable def c117 : Code := Try.f117.body.getD .skip
def ST117 : List (Nat × (St → Cont (List DV × List (List D)) → Rs)) := []
theorem r117 : ∀ vs, v117 vs = bodyK C117 (lkS ST117) Try.f117 (sig 117) c117 (fillAs A117 0 vs) := fun vs => by kernel_rfl
theorem ok117 : ∀ xs q, opt (g117 xs) = some q → evalBody Try.prog sig (Gd G dep (dep 117)) KK 117 xs = some q := fun xs q h => body_ok Try.func117 (c := c117) rfl A117 v117 (sums_of (C := C117) (t := ST117) trivial) r117 (opt_gOf h)
noncomputable def C80 : Ctx := ⟨Try.prog, sig, Gd G dep (dep 80), (sig 80).keep, (sig 80).ord⟩
noncomputable def c80 : Code := Try.f80.body.getD .skip
def T80o1 : TSt := ⟨[.d (.l), .d (.l), .d (.b), .d (.i .i64), .d (.b), .any, .any], []⟩
def X80o1e1 : TSt := ⟨[.d (.l), .d (.l), .d (.b), .d (.i .i64), .d (.b), .d (.b), .d (.b)], []⟩
def X80o1e2 : TSt := ⟨[.d (.l), .d (.l), .d (.b), .d (.i .i64), .d (.b), .d (.b), .any], []⟩
def L80o1 (m : Nat) (vs : List Vr) (K : Cont (List DV × List (List D))) : Rs := l80o1 (vL vs 0) (vL vs 1) (vB vs 2) (vB vs 4) (fun n22 b23 b24 => K .ret (fillS X80o1e1 [.l (vL vs 0), .l (vL vs 1), .b (false), .i (n22), .b (vB vs 4), .b (b23), .b (b24)])) (fun n25 b26 v27 => K (.exit 0) (fillS X80o1e2 [.l (vL vs 0), .l (vL vs 1), .b (vB vs 2), .i (n25), .b (vB vs 4), .b (b26), .v (v27)])) m (vI vs 3) (vV vs 5) (vV vs 6)
def ST80 : List (Nat × (St → Cont (List DV × List (List D)) → Rs)) := [(1, sumT T80o1 (L80o1 KK))]
noncomputable def b80o1 : Code := match nodeAt c80 1 with | some (.loop a) => a | _ => .skip
theorem q80o1 : ∀ m vs K, L80o1 (m + 1) vs K = denK C80 (lkS ST80) b80o1 2 (fillS T80o1 vs) (loopK T80o1 (L80o1 m) K) := fun m vs K => by kernel_rfl
theorem o80o1 : SumOk C80 KK (sumT T80o1 (L80o1 KK)) (.loop b80o1) := loop_ok T80o1 L80o1 (sums_of (t := ST80) ⟨fun _ _ h => absurd h (by decide), trivial⟩) (fun _ _ => rfl) q80o1
theorem r80 : ∀ vs, v80 vs = bodyK C80 (lkS ST80) Try.f80 (sig 80) c80 (fillAs A80 0 vs) := fun vs => by kernel_rfl
theorem ok80 : ∀ xs q, opt (g80 xs) = some q → evalBody Try.prog sig (Gd G dep (dep 80)) KK 80 xs = some q := fun xs q h => body_ok Try.func80 (c := c80) rfl A80 v80 (sums_of (C := C80) (t := ST80) ⟨sum_in (c' := .loop b80o1) (by kernel_rfl) o80o1, trivial⟩) r80 (opt_gOf h)
noncomputable def C40 : Ctx := ⟨Try.prog, sig, Gd G dep (dep 40), (sig 40).keep, (sig 40).ord⟩
noncomputable def c40 : Code := Try.f40.body.getD .skip
def ST40 : List (Nat × (St → Cont (List DV × List (List D)) → Rs)) := []
theorem r40 : ∀ vs, v40 vs = bodyK C40 (lkS ST40) Try.f40 (sig 40) c40 (fillAs A40 0 vs) := fun vs => by kernel_rfl
theorem ok40 : ∀ xs q, opt (g40 xs) = some q → evalBody Try.prog sig (Gd G dep (dep 40)) KK 40 xs = some q := fun xs q h => body_ok Try.func40 (c := c40) rfl A40 v40 (sums_of (C := C40) (t := ST40) trivial) r40 (opt_gOf h)
noncomputable def C11 : Ctx := ⟨Try.prog, sig, Gd G dep (dep 11), (sig 11).keep, (sig 11).ord⟩
noncomputable def c11 : Code := Try.f11.body.getD .skip
def ST11 : List (Nat × (St → Cont (List DV × List (List D)) → Rs)) := []
theorem r11 : ∀ vs, v11 vs = bodyK C11 (lkS ST11) Try.f11 (sig 11) c11 (fillAs A11 0 vs) := fun vs => by kernel_rfl
theorem ok11 : ∀ xs q, opt (g11 xs) = some q → evalBody Try.prog sig (Gd G dep (dep 11)) KK 11 xs = some q := fun xs q h => body_ok Try.func11 (c := c11) rfl A11 v11 (sums_of (C := C11) (t := ST11) trivial) r11 (opt_gOf h)
theorem fn_ok : ∀ f ∈ [113, 71, 36, 115, 76, 38, 60, 72, 73, 74, 114, 75, 37, 89, 90, 48, 62, 77, 78, 116, 79, 39, 91, 82, 83, 49, 117, 80, 40, 11], FnOk Try.prog sig f := fun f h => fnOk_of (List.all_eq_true.1 (show [113, 71, 36, 115, 76, 38, 60, 72, 73, 74, 114, 75, 37, 89, 90, 48, 62, 77, 78, 116, 79, 39, 91, 82, 83, 49, 117, 80, 40, 11].all (fnOkB Try.prog sig) = true by kernel_rfl) f h)
theorem all_ok : AllG (fun f xs q => FnOk Try.prog sig f ∧ evalBody Try.prog sig (Gd G dep (dep f)) KK f xs = some q) gT :=
  ⟨fun xs q h => ⟨fn_ok 113 (by simp), ok113 xs q h⟩, fun xs q h => ⟨fn_ok 71 (by simp), ok71 xs q h⟩, fun xs q h => ⟨fn_ok 36 (by simp), ok36 xs q h⟩, fun xs q h => ⟨fn_ok 115 (by simp), ok115 xs q h⟩, fun xs q h => ⟨fn_ok 76 (by simp), ok76 xs q h⟩, fun xs q h => ⟨fn_ok 38 (by simp), ok38 xs q h⟩, fun xs q h => ⟨fn_ok 60 (by simp), ok60 xs q h⟩, fun xs q h => ⟨fn_ok 72 (by simp), ok72 xs q h⟩, fun xs q h => ⟨fn_ok 73 (by simp), ok73 xs q h⟩, fun xs q h => ⟨fn_ok 74 (by simp), ok74 xs q h⟩, fun xs q h => ⟨fn_ok 114 (by simp), ok114 xs q h⟩, fun xs q h => ⟨fn_ok 75 (by simp), ok75 xs q h⟩, fun xs q h => ⟨fn_ok 37 (by simp), ok37 xs q h⟩, fun xs q h => ⟨fn_ok 89 (by simp), ok89 xs q h⟩, fun xs q h => ⟨fn_ok 90 (by simp), ok90 xs q h⟩, fun xs q h => ⟨fn_ok 48 (by simp), ok48 xs q h⟩, fun xs q h => ⟨fn_ok 62 (by simp), ok62 xs q h⟩, fun xs q h => ⟨fn_ok 77 (by simp), ok77 xs q h⟩, fun xs q h => ⟨fn_ok 78 (by simp), ok78 xs q h⟩, fun xs q h => ⟨fn_ok 116 (by simp), ok116 xs q h⟩, fun xs q h => ⟨fn_ok 79 (by simp), ok79 xs q h⟩, fun xs q h => ⟨fn_ok 39 (by simp), ok39 xs q h⟩, fun xs q h => ⟨fn_ok 91 (by simp), ok91 xs q h⟩, fun xs q h => ⟨fn_ok 82 (by simp), ok82 xs q h⟩, fun xs q h => ⟨fn_ok 83 (by simp), ok83 xs q h⟩, fun xs q h => ⟨fn_ok 49 (by simp), ok49 xs q h⟩, fun xs q h => ⟨fn_ok 117 (by simp), ok117 xs q h⟩, fun xs q h => ⟨fn_ok 80 (by simp), ok80 xs q h⟩, fun xs q h => ⟨fn_ok 40 (by simp), ok40 xs q h⟩, fun xs q h => ⟨fn_ok 11 (by simp), ok11 xs q h⟩, trivial⟩
theorem G_ok (f : Nat) : SpecOk Try.prog (sig f) (fun xs => opt (G f xs)) f := G_spec (by kernel_rfl) (allG_of all_ok) f
end
end Go.Den.L11
