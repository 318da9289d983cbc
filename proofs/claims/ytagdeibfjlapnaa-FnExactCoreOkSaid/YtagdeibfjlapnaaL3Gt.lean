/- The functions' table, and that each is what its twin says. Printed by tw.py. -/
import Derived.Test.YtagdeibfjlapnaaL3Tw
import Derived.Test.YtagdeibfjlapnaaProg
import Derived.KernelRfl
set_option linter.unusedVariables false
namespace Go.Den.L3
open Go Go.Proofs
noncomputable section
set_option maxRecDepth 100000
def sg79 : Sig := ⟨[.bor, .bor], .sc [.one (.i .i64 0)], [0, 1, 2, 4, 11], []⟩
def sg33 : Sig := ⟨[.bor, .bor], .sc [.one (.i .i64 0)], [0, 1, 4, 5, 11, 15, 25], []⟩
def sg34 : Sig := ⟨[.bor, .bor], .sc [.one (.i .i64 0)], [0, 1, 4, 10], []⟩
def sg9 : Sig := ⟨[.bor, .bor], .sc [.one (.i .i64 0)], [0, 1, 2, 4, 10, 16, 22, 28], []⟩
def sg81 : Sig := ⟨[.bor], .sc [.agg [.i .i64 0, .s ⟨#[]⟩]], [0, 1, 2, 3], []⟩
def sg40 : Sig := ⟨[.bor], .fresh [[some (129, 2)]], [0, 2, 3, 4, 11], []⟩
def sg41 : Sig := ⟨[.bor], .fresh [[some (3, 1)]], [0, 2, 3, 4, 11], []⟩
def sg11 : Sig := ⟨[.bor], .fresh [[none, none, none, none, none, none, none, none, some (129, 2), none, some (3, 1), some (3, 1), some (3, 1)]], [0, 1, 2, 3], []⟩
def sg35 : Sig := ⟨[.bor, .bor, .bor], .sc [.one (.b false)], [0, 1, 2, 6], []⟩
def sg37 : Sig := ⟨[.bor, .bor], .fresh [[none, none, none, none, none, some (129, 2)]], [0, 1, 2, 4, 5, 17], [(1, [(9, 2, []), (0, 0, []), (1, 0, []), (2, 0, []), (3, 0, []), (5, 0, []), (6, 0, []), (4, 1, [0, 1, 2, 3, 5, 6]), (7, 1, [0, 1, 2, 3]), (8, 0, []), (10, 1, [])])]⟩
def sg80 : Sig := ⟨[.bor, .bor], .sc [.one (.b false)], [0, 1, 4, 6], []⟩
def sg36 : Sig := ⟨[.bor], .sc [.one (.b false)], [0, 1, 2, 3, 4, 5, 68, 76, 105], []⟩
def sg38 : Sig := ⟨[.bor], .sc [.one (.i .i64 0)], [0, 1, 2], []⟩
def sg39 : Sig := ⟨[.bor, .bor], .sc [.one (.b false)], [0, 1, 4, 5, 9, 17], []⟩
def sg10 : Sig := ⟨[.bor], .sc [.one (.b false)], [0, 1, 2, 3, 4, 50, 52, 53, 86, 92, 122, 166, 217, 221, 253], [(1, [(0, 0, []), (1, 0, []), (2, 0, []), (3, 0, []), (4, 0, []), (5, 0, []), (6, 0, []), (7, 0, []), (8, 0, []), (9, 0, []), (10, 0, []), (11, 0, []), (12, 0, []), (13, 0, []), (14, 0, []), (15, 0, []), (16, 0, []), (17, 0, []), (18, 0, []), (19, 0, []), (20, 0, []), (21, 0, []), (22, 0, []), (23, 0, []), (24, 0, []), (25, 1, []), (26, 0, []), (27, 0, []), (28, 0, []), (29, 0, []), (30, 0, []), (31, 0, []), (32, 0, []), (33, 0, []), (34, 0, []), (35, 0, []), (36, 0, []), (37, 0, []), (38, 0, []), (39, 0, []), (40, 0, []), (41, 0, []), (42, 0, []), (43, 0, []), (44, 0, []), (45, 0, [])]), (10, [(0, 0, []), (1, 0, []), (2, 0, []), (3, 0, []), (4, 0, []), (5, 0, []), (6, 0, []), (7, 0, []), (8, 0, []), (9, 0, []), (10, 0, []), (11, 0, []), (12, 0, []), (13, 0, []), (14, 0, []), (15, 0, []), (16, 0, []), (17, 0, []), (18, 0, []), (19, 0, []), (20, 0, []), (21, 0, []), (22, 0, []), (23, 0, []), (24, 0, []), (25, 0, []), (26, 0, []), (27, 0, [])]), (14, [(0, 0, []), (1, 0, []), (2, 0, []), (3, 0, []), (4, 0, []), (5, 0, []), (6, 0, []), (7, 0, []), (8, 0, []), (9, 0, []), (10, 0, []), (11, 0, []), (12, 0, []), (13, 0, []), (14, 0, []), (15, 0, []), (16, 0, []), (17, 0, []), (18, 0, []), (19, 0, []), (20, 0, []), (21, 0, []), (22, 0, []), (23, 0, []), (24, 0, []), (25, 0, []), (26, 0, []), (27, 0, []), (28, 0, []), (29, 0, []), (30, 0, []), (31, 0, []), (32, 0, []), (33, 0, []), (34, 0, []), (35, 0, []), (36, 0, []), (37, 0, []), (38, 0, []), (39, 0, []), (40, 0, []), (41, 0, []), (42, 0, []), (43, 0, []), (44, 0, []), (45, 0, []), (46, 0, []), (47, 0, []), (48, 0, []), (49, 0, [])]), (19, [(0, 0, []), (1, 0, []), (2, 0, []), (3, 0, []), (4, 0, []), (5, 0, []), (6, 0, []), (7, 0, []), (8, 0, []), (9, 0, []), (10, 0, []), (11, 0, []), (12, 0, []), (13, 0, []), (14, 0, []), (15, 0, []), (16, 0, []), (17, 0, []), (18, 0, []), (19, 0, []), (20, 0, []), (21, 0, []), (22, 0, []), (23, 0, []), (24, 0, []), (25, 0, []), (26, 0, []), (27, 0, []), (28, 0, []), (29, 0, [])])]⟩
def sg42 : Sig := ⟨[.bor, .bor, .bor], .sc [.one (.b false)], [0, 1, 2, 6], []⟩
def sg44 : Sig := ⟨[.rptr 13, .bor], .fresh [[none, none, none, none, none, some (129, 2)]], [0, 1, 4, 5, 24], [(1, [(14, 2, []), (0, 0, []), (1, 0, []), (2, 0, []), (3, 0, []), (4, 0, []), (5, 0, []), (6, 0, []), (7, 0, []), (8, 0, []), (9, 0, []), (10, 0, []), (11, 0, []), (12, 1, [0, 1, 2, 3, 4, 5, 6, 7]), (13, 0, []), (15, 1, [])]), (3, [(0, 0, []), (1, 0, []), (2, 0, []), (3, 0, []), (4, 0, []), (5, 0, []), (6, 0, []), (7, 0, []), (8, 0, []), (9, 0, []), (10, 0, []), (11, 1, [])])]⟩
def sg43 : Sig := ⟨[.bor], .sc [.one (.b false)], [0, 1, 2, 3, 5, 21, 48, 54, 55, 56, 57, 72], []⟩
def sg45 : Sig := ⟨[.rptr 13], .sc [.one (.i .i64 0)], [0, 2], [(1, [(0, 0, []), (1, 0, []), (2, 0, []), (3, 0, []), (4, 0, []), (5, 0, []), (6, 0, []), (7, 0, []), (8, 0, []), (9, 0, []), (10, 0, [])])]⟩
def sg119 : Sig := ⟨[.bor, .bor], .sc [.one (.i .i64 0)], [0, 1, 4, 5, 7, 8, 9, 16], []⟩
def sg82 : Sig := ⟨[.bor, .bor], .sc [.one (.b false)], [0, 1, 4], []⟩
def sg83 : Sig := ⟨[.rptr 13, .bor], .sc [.one (.b false)], [0, 1, 4], []⟩
def sg46 : Sig := ⟨[.rptr 13], .sc [.one (.b false)], [0, 2, 3, 4, 8, 9, 10, 11, 38], [(7, [(0, 0, []), (1, 0, []), (2, 0, []), (3, 0, []), (4, 0, []), (5, 0, []), (6, 0, []), (7, 0, []), (8, 0, []), (9, 0, []), (10, 0, []), (11, 0, []), (12, 0, []), (13, 0, []), (14, 0, []), (15, 0, []), (16, 0, []), (17, 0, []), (18, 0, []), (19, 0, []), (20, 0, []), (21, 0, []), (22, 0, []), (23, 0, []), (24, 0, []), (25, 0, []), (26, 0, []), (27, 0, []), (28, 0, []), (29, 0, []), (30, 0, []), (31, 0, []), (32, 0, []), (33, 0, []), (34, 0, []), (35, 0, []), (36, 0, []), (37, 0, []), (38, 0, []), (39, 0, []), (40, 0, []), (41, 0, []), (42, 0, []), (43, 0, []), (44, 0, []), (45, 0, []), (46, 0, []), (47, 0, []), (48, 0, []), (49, 0, []), (50, 0, []), (51, 0, []), (52, 0, []), (53, 0, []), (54, 0, []), (55, 0, []), (56, 0, []), (57, 0, []), (58, 0, [])])]⟩
def sg47 : Sig := ⟨[.rptr 13], .sc [.one (.b false)], [0, 2, 3, 4, 63, 67, 68, 69, 70, 99], [(1, [(0, 0, []), (1, 0, []), (2, 0, []), (3, 0, []), (4, 0, []), (5, 0, []), (6, 0, []), (7, 0, []), (8, 0, []), (9, 0, []), (10, 0, []), (11, 0, []), (12, 0, []), (13, 0, []), (14, 0, []), (15, 0, []), (16, 0, []), (17, 0, []), (18, 0, []), (19, 0, []), (20, 0, []), (21, 0, []), (22, 0, []), (23, 0, []), (24, 0, []), (25, 0, []), (26, 0, []), (27, 0, []), (28, 0, []), (29, 0, []), (30, 0, []), (31, 0, []), (32, 0, []), (33, 0, []), (34, 0, []), (35, 0, []), (36, 0, []), (37, 0, []), (38, 0, []), (39, 0, []), (40, 0, []), (41, 0, []), (42, 0, []), (43, 0, []), (44, 0, []), (45, 0, []), (46, 0, []), (47, 0, []), (48, 0, []), (49, 0, []), (50, 0, []), (51, 0, []), (52, 0, []), (53, 0, []), (54, 0, []), (55, 0, []), (56, 0, []), (57, 0, []), (58, 0, [])]), (6, [(0, 0, []), (1, 0, []), (2, 0, []), (3, 0, []), (4, 0, []), (5, 0, []), (6, 0, []), (7, 0, []), (8, 0, []), (9, 0, []), (10, 0, []), (11, 0, []), (12, 0, []), (13, 0, []), (14, 0, []), (15, 0, []), (16, 0, []), (17, 0, []), (18, 0, []), (19, 0, []), (20, 0, []), (21, 0, []), (22, 0, []), (23, 0, []), (24, 0, []), (25, 0, [])]), (9, [(0, 0, []), (1, 0, []), (2, 0, []), (3, 0, []), (4, 0, []), (5, 0, []), (6, 0, []), (7, 0, []), (8, 0, []), (9, 0, []), (10, 0, []), (11, 0, []), (12, 0, []), (13, 0, [])])]⟩
def sg12 : Sig := ⟨[.bor], .sc [.one (.b false)], [0, 1, 2, 51, 53, 54, 83, 86], [(1, [(0, 0, []), (1, 0, []), (2, 0, []), (3, 0, []), (4, 0, []), (5, 0, []), (6, 0, []), (7, 0, []), (8, 0, []), (9, 0, []), (10, 0, []), (11, 0, []), (12, 0, []), (13, 0, []), (14, 0, []), (15, 0, []), (16, 0, []), (17, 0, []), (18, 0, []), (19, 0, []), (20, 0, []), (21, 0, []), (22, 0, []), (23, 0, []), (24, 0, []), (25, 0, []), (26, 0, []), (27, 0, []), (28, 0, []), (29, 0, []), (30, 0, []), (31, 0, []), (32, 0, []), (33, 0, []), (34, 0, []), (35, 0, []), (36, 1, []), (37, 0, []), (38, 0, []), (39, 0, []), (40, 0, []), (41, 0, []), (42, 0, []), (43, 0, []), (44, 0, []), (45, 0, []), (46, 0, []), (47, 0, []), (48, 0, [])])]⟩
def sg84 : Sig := ⟨[.bor, .bor], .sc [.one (.b false)], [0, 1, 2, 3, 4, 9, 14], []⟩
def sg48 : Sig := ⟨[.bor, .bor], .sc [.one (.b false)], [0, 1, 4, 5, 10, 14, 26], [(6, [(0, 0, []), (1, 0, []), (2, 0, []), (3, 0, []), (4, 0, []), (5, 0, []), (6, 0, []), (7, 0, []), (8, 0, []), (9, 0, [])])]⟩
def sg49 : Sig := ⟨[.bor, .bor], .sc [.one (.b false)], [0, 1, 4, 5, 10, 14, 25], [(6, [(0, 0, []), (1, 0, []), (2, 0, []), (3, 0, []), (4, 0, []), (5, 0, []), (6, 0, []), (7, 0, []), (8, 0, [])])]⟩
def sg13 : Sig := ⟨[.bor, .bor], .sc [.one (.b false)], [0, 1, 2, 3, 4, 9, 14, 19, 24, 29, 34, 39, 44, 50, 55, 61, 67, 73], []⟩
def sg3 : Sig := ⟨[.bor], .sc [.one (.b false)], [0, 1, 2, 3, 4, 5, 6, 11, 21, 26], [(10, [(0, 0, []), (1, 0, []), (2, 1, [0]), (3, 0, []), (4, 0, [])])]⟩
def sig : Nat → Sig := lkF ⟨[], .fresh [], [], []⟩ [(79, sg79), (33, sg33), (34, sg34), (9, sg9), (81, sg81), (40, sg40), (41, sg41), (11, sg11), (35, sg35), (37, sg37), (80, sg80), (36, sg36), (38, sg38), (39, sg39), (10, sg10), (42, sg42), (44, sg44), (43, sg43), (45, sg45), (119, sg119), (82, sg82), (83, sg83), (46, sg46), (47, sg47), (12, sg12), (84, sg84), (48, sg48), (49, sg49), (13, sg13), (3, sg3)]
def dep : Nat → Nat := lkF 0 [(79, 1), (33, 2), (34, 1), (9, 3), (81, 1), (40, 2), (41, 1), (11, 3), (35, 1), (37, 1), (80, 2), (36, 3), (38, 1), (39, 1), (10, 4), (42, 1), (44, 1), (43, 2), (45, 1), (119, 1), (82, 2), (83, 1), (46, 3), (47, 2), (12, 4), (84, 1), (48, 2), (49, 1), (13, 3), (3, 5)]
def gT : List (Nat × (List DV → Bool × List DV × List (List D))) := [(79, g79), (33, g33), (34, g34), (9, g9), (81, g81), (40, g40), (41, g41), (11, g11), (35, g35), (37, g37), (80, g80), (36, g36), (38, g38), (39, g39), (10, g10), (42, g42), (44, g44), (43, g43), (45, g45), (119, g119), (82, g82), (83, g83), (46, g46), (47, g47), (12, g12), (84, g84), (48, g48), (49, g49), (13, g13), (3, g3)]
def G : Nat → List DV → Bool × List DV × List (List D) := lkF (fun _ => (false, [], [])) gT
noncomputable def C79 : Ctx := ⟨Try.prog, sig, Gd G dep (dep 79), (sig 79).keep, (sig 79).ord⟩
noncomputable def c79 : Code := Try.f79.body.getD .skip
def ST79 : List (Nat × (St → Cont (List DV × List (List D)) → Rs)) := []
theorem r79 : ∀ vs, v79 vs = bodyK C79 (lkS ST79) Try.f79 (sig 79) c79 (fillAs A79 0 vs) := fun vs => by kernel_rfl
theorem ok79 : ∀ xs q, opt (g79 xs) = some q → evalBody Try.prog sig (Gd G dep (dep 79)) KK 79 xs = some q := fun xs q h => body_ok Try.func79 (c := c79) rfl A79 v79 (sums_of (C := C79) (t := ST79) trivial) r79 (opt_gOf h)
noncomputable def C33 : Ctx := ⟨Try.prog, sig, Gd G dep (dep 33), (sig 33).keep, (sig 33).ord⟩
noncomputable def c33 : Code := Try.f33.body.getD .skip
def T33o1 : TSt := ⟨[.d (.l), .d (.i .i64), .d (.i .i64), .d (.i .i64), .d (.b), .any, .any], []⟩
def X33o1e1 : TSt := ⟨[.d (.l), .d (.i .i64), .d (.i .i64), .d (.i .i64), .d (.b), .d (.b), .d (.b)], []⟩
def X33o1e2 : TSt := ⟨[.d (.l), .d (.i .i64), .d (.i .i64), .d (.i .i64), .d (.b), .d (.b), .any], []⟩
def L33o1 (m : Nat) (vs : List Vr) (K : Cont (List DV × List (List D))) : Rs := l33o1 (vL vs 0) (vI vs 2) (vB vs 4) (fun n22 n23 b24 b25 => K .ret (fillS X33o1e1 [.l (vL vs 0), .i (n22), .i ((-1 : Int)), .i (n23), .b (vB vs 4), .b (b24), .b (b25)])) (fun n26 n27 b28 v29 => K (.exit 0) (fillS X33o1e2 [.l (vL vs 0), .i (n26), .i (vI vs 2), .i (n27), .b (vB vs 4), .b (b28), .v (v29)])) m (vI vs 1) (vI vs 3) (vV vs 5) (vV vs 6)
def ST33 : List (Nat × (St → Cont (List DV × List (List D)) → Rs)) := [(1, sumT T33o1 (L33o1 KK))]
noncomputable def b33o1 : Code := match nodeAt c33 1 with | some (.loop a) => a | _ => .skip
theorem q33o1 : ∀ m vs K, L33o1 (m + 1) vs K = denK C33 (lkS ST33) b33o1 2 (fillS T33o1 vs) (loopK T33o1 (L33o1 m) K) := fun m vs K => by kernel_rfl
theorem o33o1 : SumOk C33 KK (sumT T33o1 (L33o1 KK)) (.loop b33o1) := loop_ok T33o1 L33o1 (sums_of (t := ST33) ⟨fun _ _ h => absurd h (by decide), trivial⟩) (fun _ _ => rfl) q33o1
theorem r33 : ∀ vs, v33 vs = bodyK C33 (lkS ST33) Try.f33 (sig 33) c33 (fillAs A33 0 vs) := fun vs => by kernel_rfl
theorem ok33 : ∀ xs q, opt (g33 xs) = some q → evalBody Try.prog sig (Gd G dep (dep 33)) KK 33 xs = some q := fun xs q h => body_ok Try.func33 (c := c33) rfl A33 v33 (sums_of (C := C33) (t := ST33) ⟨sum_in (c' := .loop b33o1) (by kernel_rfl) o33o1, trivial⟩) r33 (opt_gOf h)
noncomputable def C34 : Ctx := ⟨Try.prog, sig, Gd G dep (dep 34), (sig 34).keep, (sig 34).ord⟩
noncomputable def c34 : Code := Try.f34.body.getD .skip
def ST34 : List (Nat × (St → Cont (List DV × List (List D)) → Rs)) := []
theorem r34 : ∀ vs, v34 vs = bodyK C34 (lkS ST34) Try.f34 (sig 34) c34 (fillAs A34 0 vs) := fun vs => by kernel_rfl
theorem ok34 : ∀ xs q, opt (g34 xs) = some q → evalBody Try.prog sig (Gd G dep (dep 34)) KK 34 xs = some q := fun xs q h => body_ok Try.func34 (c := c34) rfl A34 v34 (sums_of (C := C34) (t := ST34) trivial) r34 (opt_gOf h)
noncomputable def C9 : Ctx := ⟨Try.prog, sig, Gd G dep (dep 9), (sig 9).keep, (sig 9).ord⟩
noncomputable def c9 : Code := Try.f9.body.getD .skip
def ST9 : List (Nat × (St → Cont (List DV × List (List D)) → Rs)) := []
theorem r9 : ∀ vs, v9 vs = bodyK C9 (lkS ST9) Try.f9 (sig 9) c9 (fillAs A9 0 vs) := fun vs => by kernel_rfl
theorem ok9 : ∀ xs q, opt (g9 xs) = some q → evalBody Try.prog sig (Gd G dep (dep 9)) KK 9 xs = some q := fun xs q h => body_ok Try.func9 (c := c9) rfl A9 v9 (sums_of (C := C9) (t := ST9) trivial) r9 (opt_gOf h)
noncomputable def C81 : Ctx := ⟨Try.prog, sig, Gd G dep (dep 81), (sig 81).keep, (sig 81).ord⟩
noncomputable def c81 : Code := Try.f81.body.getD .skip
def ST81 : List (Nat × (St → Cont (List DV × List (List D)) → Rs)) := []
theorem r81 : ∀ vs, v81 vs = bodyK C81 (lkS ST81) Try.f81 (sig 81) c81 (fillAs A81 0 vs) := fun vs => by kernel_rfl
theorem ok81 : ∀ xs q, opt (g81 xs) = some q → evalBody Try.prog sig (Gd G dep (dep 81)) KK 81 xs = some q := fun xs q h => body_ok Try.func81 (c := c81) rfl A81 v81 (sums_of (C := C81) (t := ST81) trivial) r81 (opt_gOf h)
noncomputable def C40 : Ctx := ⟨Try.prog, sig, Gd G dep (dep 40), (sig 40).keep, (sig 40).ord⟩
noncomputable def c40 : Code := Try.f40.body.getD .skip
def T40o0 : TSt := ⟨[.d (.l), .nils, .own 448, .d (.i .i64), .any], [(448, .row 129 2)]⟩
def X40o0e1 : TSt := ⟨[.d (.l), .nils, .own 448, .d (.i .i64), .d (.b)], [(448, .row 129 2)]⟩
def L40o0 (m : Nat) (vs : List Vr) (K : Cont (List DV × List (List D))) : Rs := l40o0 (vL vs 0) (fun n13 b14 l15 => K (.exit 0) (fillS X40o0e1 [.l (vL vs 0), .i (n13), .b (b14), .l (l15)])) m (vI vs 1) (vV vs 2) (vL vs 3)
def ST40 : List (Nat × (St → Cont (List DV × List (List D)) → Rs)) := [(0, sumT T40o0 (L40o0 KK))]
noncomputable def b40o0 : Code := match nodeAt c40 0 with | some (.loop a) => a | _ => .skip
theorem q40o0 : ∀ m vs K, L40o0 (m + 1) vs K = denK C40 (lkS ST40) b40o0 1 (fillS T40o0 vs) (loopK T40o0 (L40o0 m) K) := fun m vs K => by kernel_rfl
theorem o40o0 : SumOk C40 KK (sumT T40o0 (L40o0 KK)) (.loop b40o0) := loop_ok T40o0 L40o0 (sums_of (t := ST40) ⟨fun _ _ h => absurd h (by decide), trivial⟩) (fun _ _ => rfl) q40o0
theorem r40 : ∀ vs, v40 vs = bodyK C40 (lkS ST40) Try.f40 (sig 40) c40 (fillAs A40 0 vs) := fun vs => by kernel_rfl
theorem ok40 : ∀ xs q, opt (g40 xs) = some q → evalBody Try.prog sig (Gd G dep (dep 40)) KK 40 xs = some q := fun xs q h => body_ok Try.func40 (c := c40) rfl A40 v40 (sums_of (C := C40) (t := ST40) ⟨sum_in (c' := .loop b40o0) (by kernel_rfl) o40o0, trivial⟩) r40 (opt_gOf h)
noncomputable def C41 : Ctx := ⟨Try.prog, sig, Gd G dep (dep 41), (sig 41).keep, (sig 41).ord⟩
noncomputable def c41 : Code := Try.f41.body.getD .skip
def T41o0 : TSt := ⟨[.d (.l), .nils, .own 448, .d (.i .i64), .any], [(448, .row 3 1)]⟩
def X41o0e1 : TSt := ⟨[.d (.l), .nils, .own 448, .d (.i .i64), .d (.b)], [(448, .row 3 1)]⟩
def L41o0 (m : Nat) (vs : List Vr) (K : Cont (List DV × List (List D))) : Rs := l41o0 (vL vs 0) (fun n13 b14 l15 => K (.exit 0) (fillS X41o0e1 [.l (vL vs 0), .i (n13), .b (b14), .l (l15)])) m (vI vs 1) (vV vs 2) (vL vs 3)
def ST41 : List (Nat × (St → Cont (List DV × List (List D)) → Rs)) := [(0, sumT T41o0 (L41o0 KK))]
noncomputable def b41o0 : Code := match nodeAt c41 0 with | some (.loop a) => a | _ => .skip
theorem q41o0 : ∀ m vs K, L41o0 (m + 1) vs K = denK C41 (lkS ST41) b41o0 1 (fillS T41o0 vs) (loopK T41o0 (L41o0 m) K) := fun m vs K => by kernel_rfl
theorem o41o0 : SumOk C41 KK (sumT T41o0 (L41o0 KK)) (.loop b41o0) := loop_ok T41o0 L41o0 (sums_of (t := ST41) ⟨fun _ _ h => absurd h (by decide), trivial⟩) (fun _ _ => rfl) q41o0
theorem r41 : ∀ vs, v41 vs = bodyK C41 (lkS ST41) Try.f41 (sig 41) c41 (fillAs A41 0 vs) := fun vs => by kernel_rfl
theorem ok41 : ∀ xs q, opt (g41 xs) = some q → evalBody Try.prog sig (Gd G dep (dep 41)) KK 41 xs = some q := fun xs q h => body_ok Try.func41 (c := c41) rfl A41 v41 (sums_of (C := C41) (t := ST41) ⟨sum_in (c' := .loop b41o0) (by kernel_rfl) o41o0, trivial⟩) r41 (opt_gOf h)
noncomputable def C11 : Ctx := ⟨Try.prog, sig, Gd G dep (dep 11), (sig 11).keep, (sig 11).ord⟩
noncomputable def c11 : Code := Try.f11.body.getD .skip
def ST11 : List (Nat × (St → Cont (List DV × List (List D)) → Rs)) := []
theorem r11 : ∀ vs, v11 vs = bodyK C11 (lkS ST11) Try.f11 (sig 11) c11 (fillAs A11 0 vs) := fun vs => by kernel_rfl
theorem ok11 : ∀ xs q, opt (g11 xs) = some q → evalBody Try.prog sig (Gd G dep (dep 11)) KK 11 xs = some q := fun xs q h => body_ok Try.func11 (c := c11) rfl A11 v11 (sums_of (C := C11) (t := ST11) trivial) r11 (opt_gOf h)
noncomputable def C35 : Ctx := ⟨Try.prog, sig, Gd G dep (dep 35), (sig 35).keep, (sig 35).ord⟩
noncomputable def c35 : Code := Try.f35.body.getD .skip
def ST35 : List (Nat × (St → Cont (List DV × List (List D)) → Rs)) := []
theorem r35 : ∀ vs, v35 vs = bodyK C35 (lkS ST35) Try.f35 (sig 35) c35 (fillAs A35 0 vs) := fun vs => by kernel_rfl
theorem ok35 : ∀ xs q, opt (g35 xs) = some q → evalBody Try.prog sig (Gd G dep (dep 35)) KK 35 xs = some q := fun xs q h => body_ok Try.func35 (c := c35) rfl A35 v35 (sums_of (C := C35) (t := ST35) trivial) r35 (opt_gOf h)
noncomputable def C37 : Ctx := ⟨Try.prog, sig, Gd G dep (dep 37), (sig 37).keep, (sig 37).ord⟩
noncomputable def c37 : Code := Try.f37.body.getD .skip
def ST37 : List (Nat × (St → Cont (List DV × List (List D)) → Rs)) := []
theorem r37 : ∀ vs, v37 vs = bodyK C37 (lkS ST37) Try.f37 (sig 37) c37 (fillAs A37 0 vs) := fun vs => by kernel_rfl
theorem ok37 : ∀ xs q, opt (g37 xs) = some q → evalBody Try.prog sig (Gd G dep (dep 37)) KK 37 xs = some q := fun xs q h => body_ok Try.func37 (c := c37) rfl A37 v37 (sums_of (C := C37) (t := ST37) trivial) r37 (opt_gOf h)
noncomputable def C80 : Ctx := ⟨Try.prog, sig, Gd G dep (dep 80), (sig 80).keep, (sig 80).ord⟩
noncomputable def c80 : Code := Try.f80.body.getD .skip
def ST80 : List (Nat × (St → Cont (List DV × List (List D)) → Rs)) := []
theorem r80 : ∀ vs, v80 vs = bodyK C80 (lkS ST80) Try.f80 (sig 80) c80 (fillAs A80 0 vs) := fun vs => by kernel_rfl
theorem ok80 : ∀ xs q, opt (g80 xs) = some q → evalBody Try.prog sig (Gd G dep (dep 80)) KK 80 xs = some q := fun xs q h => body_ok Try.func80 (c := c80) rfl A80 v80 (sums_of (C := C80) (t := ST80) trivial) r80 (opt_gOf h)
noncomputable def C36 : Ctx := ⟨Try.prog, sig, Gd G dep (dep 36), (sig 36).keep, (sig 36).ord⟩
noncomputable def c36 : Code := Try.f36.body.getD .skip
def T36o1 : TSt := ⟨[.agg [.d (.i .i64), .d (.i .i64), .d (.i .i64), .d (.i .i64), .d (.s), .d (.l)], .ptr 64 0, .d (.b), .d (.i .i64), .d (.i .i64), .undef, .d (.b), .any, .any], [(64, .box [.d (.i .i64), .d (.i .i64), .d (.i .i64), .d (.i .i64), .d (.s), .d (.l)])]⟩
def X36o1e1 : TSt := ⟨[.agg [.d (.i .i64), .d (.i .i64), .d (.i .i64), .d (.i .i64), .d (.s), .d (.l)], .ptr 64 0, .d (.b), .d (.i .i64), .d (.i .i64), .ptr 320 0, .d (.b), .d (.b), .d (.b)], [(64, .box [.d (.i .i64), .d (.i .i64), .d (.i .i64), .d (.i .i64), .d (.s), .d (.l)]), (320, .box [.d (.i .i64), .d (.s)])]⟩
def X36o1e2 : TSt := ⟨[.agg [.d (.i .i64), .d (.i .i64), .d (.i .i64), .d (.i .i64), .d (.s), .d (.l)], .ptr 64 0, .d (.b), .d (.i .i64), .d (.i .i64), .undef, .d (.b), .d (.b), .any], [(64, .box [.d (.i .i64), .d (.i .i64), .d (.i .i64), .d (.i .i64), .d (.s), .d (.l)])]⟩
def L36o1 (m : Nat) (vs : List Vr) (K : Cont (List DV × List (List D))) : Rs := l36o1 (vI vs 0) (vI vs 1) (vI vs 2) (vI vs 3) (vS vs 4) (vL vs 5) (vB vs 6) (vB vs 9) (vI vs 12) (vI vs 13) (vI vs 14) (vI vs 15) (vS vs 16) (vL vs 17) (fun n59 n60 b61 b62 n63 s64 => K .ret (fillS X36o1e1 [.i (vI vs 0), .i (vI vs 1), .i (vI vs 2), .i (vI vs 3), .s (vS vs 4), .l (vL vs 5), .b (false), .i (n59), .i (n60), .b (vB vs 9), .b (b61), .b (b62), .i (vI vs 12), .i (vI vs 13), .i (vI vs 14), .i (vI vs 15), .s (vS vs 16), .l (vL vs 17), .i (n63), .s (s64)])) (fun n65 n66 b67 v68 => K (.exit 0) (fillS X36o1e2 [.i (vI vs 0), .i (vI vs 1), .i (vI vs 2), .i (vI vs 3), .s (vS vs 4), .l (vL vs 5), .b (vB vs 6), .i (n65), .i (n66), .b (vB vs 9), .b (b67), .v (v68), .i (vI vs 12), .i (vI vs 13), .i (vI vs 14), .i (vI vs 15), .s (vS vs 16), .l (vL vs 17)])) m (vI vs 7) (vI vs 8) (vV vs 10) (vV vs 11)
def ST36 : List (Nat × (St → Cont (List DV × List (List D)) → Rs)) := [(1, sumT T36o1 (L36o1 KK))]
noncomputable def b36o1 : Code := match nodeAt c36 1 with | some (.loop a) => a | _ => .skip
theorem q36o1 : ∀ m vs K, L36o1 (m + 1) vs K = denK C36 (lkS ST36) b36o1 2 (fillS T36o1 vs) (loopK T36o1 (L36o1 m) K) := fun m vs K => by kernel_rfl
theorem o36o1 : SumOk C36 KK (sumT T36o1 (L36o1 KK)) (.loop b36o1) := loop_ok T36o1 L36o1 (sums_of (t := ST36) ⟨fun _ _ h => absurd h (by decide), trivial⟩) (fun _ _ => rfl) q36o1
theorem r36 : ∀ vs, v36 vs = bodyK C36 (lkS ST36) Try.f36 (sig 36) c36 (fillAs A36 0 vs) := fun vs => by kernel_rfl
theorem ok36 : ∀ xs q, opt (g36 xs) = some q → evalBody Try.prog sig (Gd G dep (dep 36)) KK 36 xs = some q := fun xs q h => body_ok Try.func36 (c := c36) rfl A36 v36 (sums_of (C := C36) (t := ST36) ⟨sum_in (c' := .loop b36o1) (by kernel_rfl) o36o1, trivial⟩) r36 (opt_gOf h)
noncomputable def C38 : Ctx := ⟨Try.prog, sig, Gd G dep (dep 38), (sig 38).keep, (sig 38).ord⟩
noncomputable def c38 : Code := Try.f38.body.getD .skip
def ST38 : List (Nat × (St → Cont (List DV × List (List D)) → Rs)) := []
theorem r38 : ∀ vs, v38 vs = bodyK C38 (lkS ST38) Try.f38 (sig 38) c38 (fillAs A38 0 vs) := fun vs => by kernel_rfl
theorem ok38 : ∀ xs q, opt (g38 xs) = some q → evalBody Try.prog sig (Gd G dep (dep 38)) KK 38 xs = some q := fun xs q h => body_ok Try.func38 (c := c38) rfl A38 v38 (sums_of (C := C38) (t := ST38) trivial) r38 (opt_gOf h)
noncomputable def C39 : Ctx := ⟨Try.prog, sig, Gd G dep (dep 39), (sig 39).keep, (sig 39).ord⟩
noncomputable def c39 : Code := Try.f39.body.getD .skip
def T39o0 : TSt := ⟨[.d (.l), .d (.i .i64), .d (.b), .d (.i .i64), .any, .any], []⟩
def X39o0e1 : TSt := ⟨[.d (.l), .d (.i .i64), .d (.b), .d (.i .i64), .d (.b), .d (.b)], []⟩
def X39o0e2 : TSt := ⟨[.d (.l), .d (.i .i64), .d (.b), .d (.i .i64), .d (.b), .any], []⟩
def L39o0 (m : Nat) (vs : List Vr) (K : Cont (List DV × List (List D))) : Rs := l39o0 (vL vs 0) (vI vs 1) (vB vs 2) (fun n19 b20 b21 => K .ret (fillS X39o0e1 [.l (vL vs 0), .i (vI vs 1), .b (true), .i (n19), .b (b20), .b (b21)])) (fun n22 b23 v24 => K (.exit 0) (fillS X39o0e2 [.l (vL vs 0), .i (vI vs 1), .b (vB vs 2), .i (n22), .b (b23), .v (v24)])) m (vI vs 3) (vV vs 4) (vV vs 5)
def ST39 : List (Nat × (St → Cont (List DV × List (List D)) → Rs)) := [(0, sumT T39o0 (L39o0 KK))]
noncomputable def b39o0 : Code := match nodeAt c39 0 with | some (.loop a) => a | _ => .skip
theorem q39o0 : ∀ m vs K, L39o0 (m + 1) vs K = denK C39 (lkS ST39) b39o0 1 (fillS T39o0 vs) (loopK T39o0 (L39o0 m) K) := fun m vs K => by kernel_rfl
theorem o39o0 : SumOk C39 KK (sumT T39o0 (L39o0 KK)) (.loop b39o0) := loop_ok T39o0 L39o0 (sums_of (t := ST39) ⟨fun _ _ h => absurd h (by decide), trivial⟩) (fun _ _ => rfl) q39o0
theorem r39 : ∀ vs, v39 vs = bodyK C39 (lkS ST39) Try.f39 (sig 39) c39 (fillAs A39 0 vs) := fun vs => by kernel_rfl
theorem ok39 : ∀ xs q, opt (g39 xs) = some q → evalBody Try.prog sig (Gd G dep (dep 39)) KK 39 xs = some q := fun xs q h => body_ok Try.func39 (c := c39) rfl A39 v39 (sums_of (C := C39) (t := ST39) ⟨sum_in (c' := .loop b39o0) (by kernel_rfl) o39o0, trivial⟩) r39 (opt_gOf h)
noncomputable def C10 : Ctx := ⟨Try.prog, sig, Gd G dep (dep 10), (sig 10).keep, (sig 10).ord⟩
noncomputable def c10 : Code := Try.f10.body.getD .skip
def T10o8 : TSt := ⟨[.agg [.d (.i .i64), .d (.i .i64), .d (.i .i64), .d (.i .i64), .d (.i .i64), .d (.i .i64), .d (.i .i64), .d (.i .i64), .d (.l), .d (.i .i64), .d (.l), .d (.l), .d (.l)], .ptr 64 0, .d (.b), .undef, .d (.i .i64), .d (.b), .d (.i .i64), .d (.b), .d (.b), .undef, .undef, .d (.b), .d (.b), .any, .any], [(64, .box [.d (.i .i64), .d (.i .i64), .d (.i .i64), .d (.i .i64), .d (.i .i64), .d (.i .i64), .d (.i .i64), .d (.i .i64), .d (.l), .d (.i .i64), .d (.l), .d (.l), .d (.l)]), (1925, .row 129 2)]⟩
def X10o8e1 : TSt := ⟨[.agg [.d (.i .i64), .d (.i .i64), .d (.i .i64), .d (.i .i64), .d (.i .i64), .d (.i .i64), .d (.i .i64), .d (.i .i64), .d (.l), .d (.i .i64), .d (.l), .d (.l), .d (.l)], .ptr 64 0, .d (.b), .undef, .d (.i .i64), .d (.b), .d (.i .i64), .d (.b), .d (.b), .undef, .undef, .d (.b), .d (.b), .d (.b), .d (.b)], [(64, .box [.d (.i .i64), .d (.i .i64), .d (.i .i64), .d (.i .i64), .d (.i .i64), .d (.i .i64), .d (.i .i64), .d (.i .i64), .d (.l), .d (.i .i64), .d (.l), .d (.l), .d (.l)]), (1925, .row 129 2)]⟩
def X10o8e2 : TSt := ⟨[.agg [.d (.i .i64), .d (.i .i64), .d (.i .i64), .d (.i .i64), .d (.i .i64), .d (.i .i64), .d (.i .i64), .d (.i .i64), .d (.l), .d (.i .i64), .d (.l), .d (.l), .d (.l)], .ptr 64 0, .d (.b), .undef, .d (.i .i64), .d (.b), .d (.i .i64), .d (.b), .d (.b), .undef, .undef, .d (.b), .d (.b), .d (.b), .any], [(64, .box [.d (.i .i64), .d (.i .i64), .d (.i .i64), .d (.i .i64), .d (.i .i64), .d (.i .i64), .d (.i .i64), .d (.i .i64), .d (.l), .d (.i .i64), .d (.l), .d (.l), .d (.l)]), (1925, .row 129 2)]⟩
def L10o8 (m : Nat) (vs : List Vr) (K : Cont (List DV × List (List D))) : Rs := l10o8 (vI vs 0) (vI vs 1) (vI vs 2) (vI vs 3) (vI vs 4) (vI vs 5) (vI vs 6) (vI vs 7) (vL vs 8) (vI vs 9) (vL vs 10) (vL vs 11) (vL vs 12) (vB vs 13) (vB vs 15) (vI vs 16) (vB vs 17) (vB vs 18) (vB vs 19) (vB vs 20) (vI vs 23) (vI vs 24) (vI vs 25) (vI vs 26) (vI vs 27) (vI vs 28) (vI vs 29) (vI vs 30) (vL vs 31) (vI vs 32) (vL vs 33) (vL vs 34) (vL vs 35) (vL vs 36) (fun n238 b239 b240 => K .ret (fillS X10o8e1 [.i (vI vs 0), .i (vI vs 1), .i (vI vs 2), .i (vI vs 3), .i (vI vs 4), .i (vI vs 5), .i (vI vs 6), .i (vI vs 7), .l (vL vs 8), .i (vI vs 9), .l (vL vs 10), .l (vL vs 11), .l (vL vs 12), .b (false), .i (n238), .b (vB vs 15), .i (vI vs 16), .b (vB vs 17), .b (vB vs 18), .b (vB vs 19), .b (vB vs 20), .b (b239), .b (b240), .i (vI vs 23), .i (vI vs 24), .i (vI vs 25), .i (vI vs 26), .i (vI vs 27), .i (vI vs 28), .i (vI vs 29), .i (vI vs 30), .l (vL vs 31), .i (vI vs 32), .l (vL vs 33), .l (vL vs 34), .l (vL vs 35), .l (vL vs 36)])) (fun n241 b242 v243 => K (.exit 3) (fillS X10o8e2 [.i (vI vs 0), .i (vI vs 1), .i (vI vs 2), .i (vI vs 3), .i (vI vs 4), .i (vI vs 5), .i (vI vs 6), .i (vI vs 7), .l (vL vs 8), .i (vI vs 9), .l (vL vs 10), .l (vL vs 11), .l (vL vs 12), .b (vB vs 13), .i (n241), .b (vB vs 15), .i (vI vs 16), .b (vB vs 17), .b (vB vs 18), .b (vB vs 19), .b (vB vs 20), .b (b242), .v (v243), .i (vI vs 23), .i (vI vs 24), .i (vI vs 25), .i (vI vs 26), .i (vI vs 27), .i (vI vs 28), .i (vI vs 29), .i (vI vs 30), .l (vL vs 31), .i (vI vs 32), .l (vL vs 33), .l (vL vs 34), .l (vL vs 35), .l (vL vs 36)])) m (vI vs 14) (vV vs 21) (vV vs 22)
def T10o3 : TSt := ⟨[.agg [.d (.i .i64), .d (.i .i64), .d (.i .i64), .d (.i .i64), .d (.i .i64), .d (.i .i64), .d (.i .i64), .d (.i .i64), .d (.l), .d (.i .i64), .d (.l), .d (.l), .d (.l)], .ptr 64 0, .d (.b), .d (.i .i64), .undef, .d (.b), .d (.i .i64), .d (.b), .d (.b), .any, .any, .undef, .undef, .undef, .undef], [(64, .box [.d (.i .i64), .d (.i .i64), .d (.i .i64), .d (.i .i64), .d (.i .i64), .d (.i .i64), .d (.i .i64), .d (.i .i64), .d (.l), .d (.i .i64), .d (.l), .d (.l), .d (.l)]), (1925, .row 129 2)]⟩
def X10o3e1 : TSt := ⟨[.agg [.d (.i .i64), .d (.i .i64), .d (.i .i64), .d (.i .i64), .d (.i .i64), .d (.i .i64), .d (.i .i64), .d (.i .i64), .d (.l), .d (.i .i64), .d (.l), .d (.l), .d (.l)], .ptr 64 0, .d (.b), .d (.i .i64), .undef, .d (.b), .d (.i .i64), .d (.b), .d (.b), .d (.b), .d (.b), .undef, .undef, .undef, .undef], [(64, .box [.d (.i .i64), .d (.i .i64), .d (.i .i64), .d (.i .i64), .d (.i .i64), .d (.i .i64), .d (.i .i64), .d (.i .i64), .d (.l), .d (.i .i64), .d (.l), .d (.l), .d (.l)]), (1925, .row 129 2)]⟩
def X10o3e2 : TSt := ⟨[.agg [.d (.i .i64), .d (.i .i64), .d (.i .i64), .d (.i .i64), .d (.i .i64), .d (.i .i64), .d (.i .i64), .d (.i .i64), .d (.l), .d (.i .i64), .d (.l), .d (.l), .d (.l)], .ptr 64 0, .d (.b), .d (.i .i64), .undef, .d (.b), .d (.i .i64), .d (.b), .d (.b), .d (.b), .any, .undef, .undef, .undef, .undef], [(64, .box [.d (.i .i64), .d (.i .i64), .d (.i .i64), .d (.i .i64), .d (.i .i64), .d (.i .i64), .d (.i .i64), .d (.i .i64), .d (.l), .d (.i .i64), .d (.l), .d (.l), .d (.l)]), (1925, .row 129 2)]⟩
def L10o3 (m : Nat) (vs : List Vr) (K : Cont (List DV × List (List D))) : Rs := l10o3 (vI vs 0) (vI vs 1) (vI vs 2) (vI vs 3) (vI vs 4) (vI vs 5) (vI vs 6) (vI vs 7) (vL vs 8) (vI vs 9) (vL vs 10) (vL vs 11) (vL vs 12) (vB vs 13) (vB vs 15) (vI vs 16) (vB vs 17) (vB vs 18) (vI vs 21) (vI vs 22) (vI vs 23) (vI vs 24) (vI vs 25) (vI vs 26) (vI vs 27) (vI vs 28) (vL vs 29) (vI vs 30) (vL vs 31) (vL vs 32) (vL vs 33) (vL vs 34) (fun n117 b118 b119 => K .ret (fillS X10o3e1 [.i (vI vs 0), .i (vI vs 1), .i (vI vs 2), .i (vI vs 3), .i (vI vs 4), .i (vI vs 5), .i (vI vs 6), .i (vI vs 7), .l (vL vs 8), .i (vI vs 9), .l (vL vs 10), .l (vL vs 11), .l (vL vs 12), .b (false), .i (n117), .b (vB vs 15), .i (vI vs 16), .b (vB vs 17), .b (vB vs 18), .b (b118), .b (b119), .i (vI vs 21), .i (vI vs 22), .i (vI vs 23), .i (vI vs 24), .i (vI vs 25), .i (vI vs 26), .i (vI vs 27), .i (vI vs 28), .l (vL vs 29), .i (vI vs 30), .l (vL vs 31), .l (vL vs 32), .l (vL vs 33), .l (vL vs 34)])) (fun n120 b121 v122 => K (.exit 1) (fillS X10o3e2 [.i (vI vs 0), .i (vI vs 1), .i (vI vs 2), .i (vI vs 3), .i (vI vs 4), .i (vI vs 5), .i (vI vs 6), .i (vI vs 7), .l (vL vs 8), .i (vI vs 9), .l (vL vs 10), .l (vL vs 11), .l (vL vs 12), .b (vB vs 13), .i (n120), .b (vB vs 15), .i (vI vs 16), .b (vB vs 17), .b (vB vs 18), .b (b121), .v (v122), .i (vI vs 21), .i (vI vs 22), .i (vI vs 23), .i (vI vs 24), .i (vI vs 25), .i (vI vs 26), .i (vI vs 27), .i (vI vs 28), .l (vL vs 29), .i (vI vs 30), .l (vL vs 31), .l (vL vs 32), .l (vL vs 33), .l (vL vs 34)])) m (vI vs 14) (vV vs 19) (vV vs 20)
def ST10 : List (Nat × (St → Cont (List DV × List (List D)) → Rs)) := [(8, sumT T10o8 (L10o8 KK)), (3, sumT T10o3 (L10o3 KK))]
noncomputable def b10o8 : Code := match nodeAt c10 8 with | some (.loop a) => a | _ => .skip
noncomputable def b10o3 : Code := match nodeAt c10 3 with | some (.loop a) => a | _ => .skip
theorem q10o8 : ∀ m vs K, L10o8 (m + 1) vs K = denK C10 (lkS ST10) b10o8 9 (fillS T10o8 vs) (loopK T10o8 (L10o8 m) K) := fun m vs K => by kernel_rfl
theorem o10o8 : SumOk C10 KK (sumT T10o8 (L10o8 KK)) (.loop b10o8) := loop_ok T10o8 L10o8 (sums_of (t := ST10) ⟨fun _ _ h => absurd h (by decide), fun _ _ h => absurd h (by decide), trivial⟩) (fun _ _ => rfl) q10o8
theorem q10o3 : ∀ m vs K, L10o3 (m + 1) vs K = denK C10 (lkS ST10) b10o3 4 (fillS T10o3 vs) (loopK T10o3 (L10o3 m) K) := fun m vs K => by kernel_rfl
theorem o10o3 : SumOk C10 KK (sumT T10o3 (L10o3 KK)) (.loop b10o3) := loop_ok T10o3 L10o3 (sums_of (t := ST10) ⟨sum_out (by kernel_rfl), fun _ _ h => absurd h (by decide), trivial⟩) (fun _ _ => rfl) q10o3
theorem r10 : ∀ vs, v10 vs = bodyK C10 (lkS ST10) Try.f10 (sig 10) c10 (fillAs A10 0 vs) := fun vs => by kernel_rfl
theorem ok10 : ∀ xs q, opt (g10 xs) = some q → evalBody Try.prog sig (Gd G dep (dep 10)) KK 10 xs = some q := fun xs q h => body_ok Try.func10 (c := c10) rfl A10 v10 (sums_of (C := C10) (t := ST10) ⟨sum_in (c' := .loop b10o8) (by kernel_rfl) o10o8, sum_in (c' := .loop b10o3) (by kernel_rfl) o10o3, trivial⟩) r10 (opt_gOf h)
noncomputable def C42 : Ctx := ⟨Try.prog, sig, Gd G dep (dep 42), (sig 42).keep, (sig 42).ord⟩
noncomputable def c42 : Code := Try.f42.body.getD .skip
def ST42 : List (Nat × (St → Cont (List DV × List (List D)) → Rs)) := []
theorem r42 : ∀ vs, v42 vs = bodyK C42 (lkS ST42) Try.f42 (sig 42) c42 (fillAs A42 0 vs) := fun vs => by kernel_rfl
theorem ok42 : ∀ xs q, opt (g42 xs) = some q → evalBody Try.prog sig (Gd G dep (dep 42)) KK 42 xs = some q := fun xs q h => body_ok Try.func42 (c := c42) rfl A42 v42 (sums_of (C := C42) (t := ST42) trivial) r42 (opt_gOf h)
noncomputable def C44 : Ctx := ⟨Try.prog, sig, Gd G dep (dep 44), (sig 44).keep, (sig 44).ord⟩
noncomputable def c44 : Code := Try.f44.body.getD .skip
def ST44 : List (Nat × (St → Cont (List DV × List (List D)) → Rs)) := []
theorem r44 : ∀ vs, v44 vs = bodyK C44 (lkS ST44) Try.f44 (sig 44) c44 (fillAs A44 0 vs) := fun vs => by kernel_rfl
theorem ok44 : ∀ xs q, opt (g44 xs) = some q → evalBody Try.prog sig (Gd G dep (dep 44)) KK 44 xs = some q := fun xs q h => body_ok Try.func44 (c := c44) rfl A44 v44 (sums_of (C := C44) (t := ST44) trivial) r44 (opt_gOf h)
noncomputable def C43 : Ctx := ⟨Try.prog, sig, Gd G dep (dep 43), (sig 43).keep, (sig 43).ord⟩
noncomputable def c43 : Code := Try.f43.body.getD .skip
def T43o2 : TSt := ⟨[.agg [.d (.i .i64), .d (.i .i64), .d (.i .i64), .d (.i .i64), .d (.s), .d (.l)], .ptr 64 0, .d (.b), .d (.i .i64), .undef, .d (.b), .d (.b), .d (.l), .d (.i .i64), .d (.i .i64), .any, .any], [(64, .box [.d (.i .i64), .d (.i .i64), .d (.i .i64), .d (.i .i64), .d (.s), .d (.l)])]⟩
def X43o2e1 : TSt := ⟨[.agg [.d (.i .i64), .d (.i .i64), .d (.i .i64), .d (.i .i64), .d (.s), .d (.l)], .ptr 64 0, .d (.b), .d (.i .i64), .ptr 320 0, .d (.b), .d (.b), .d (.l), .d (.i .i64), .d (.i .i64), .d (.b), .d (.b)], [(64, .box [.d (.i .i64), .d (.i .i64), .d (.i .i64), .d (.i .i64), .d (.s), .d (.l)]), (320, .box [.d (.i .i64), .d (.s)])]⟩
def X43o2e2 : TSt := ⟨[.agg [.d (.i .i64), .d (.i .i64), .d (.i .i64), .d (.i .i64), .d (.s), .d (.l)], .ptr 64 0, .d (.b), .d (.i .i64), .undef, .d (.b), .d (.b), .d (.l), .d (.i .i64), .d (.i .i64), .d (.b), .any], [(64, .box [.d (.i .i64), .d (.i .i64), .d (.i .i64), .d (.i .i64), .d (.s), .d (.l)])]⟩
def L43o2 (m : Nat) (vs : List Vr) (K : Cont (List DV × List (List D))) : Rs := l43o2 (vI vs 0) (vI vs 1) (vI vs 2) (vI vs 3) (vS vs 4) (vL vs 5) (vB vs 6) (vB vs 8) (vB vs 9) (vL vs 10) (vI vs 11) (vI vs 15) (vI vs 16) (vI vs 17) (vI vs 18) (vS vs 19) (vL vs 20) (fun n68 n69 b70 b71 n72 s73 => K .ret (fillS X43o2e1 [.i (vI vs 0), .i (vI vs 1), .i (vI vs 2), .i (vI vs 3), .s (vS vs 4), .l (vL vs 5), .b (false), .i (n68), .b (vB vs 8), .b (vB vs 9), .l (vL vs 10), .i (vI vs 11), .i (n69), .b (b70), .b (b71), .i (vI vs 15), .i (vI vs 16), .i (vI vs 17), .i (vI vs 18), .s (vS vs 19), .l (vL vs 20), .i (n72), .s (s73)])) (fun n74 n75 b76 v77 => K (.exit 0) (fillS X43o2e2 [.i (vI vs 0), .i (vI vs 1), .i (vI vs 2), .i (vI vs 3), .s (vS vs 4), .l (vL vs 5), .b (vB vs 6), .i (n74), .b (vB vs 8), .b (vB vs 9), .l (vL vs 10), .i (vI vs 11), .i (n75), .b (b76), .v (v77), .i (vI vs 15), .i (vI vs 16), .i (vI vs 17), .i (vI vs 18), .s (vS vs 19), .l (vL vs 20)])) m (vI vs 7) (vI vs 12) (vV vs 13) (vV vs 14)
def ST43 : List (Nat × (St → Cont (List DV × List (List D)) → Rs)) := [(2, sumT T43o2 (L43o2 KK))]
noncomputable def b43o2 : Code := match nodeAt c43 2 with | some (.loop a) => a | _ => .skip
theorem q43o2 : ∀ m vs K, L43o2 (m + 1) vs K = denK C43 (lkS ST43) b43o2 3 (fillS T43o2 vs) (loopK T43o2 (L43o2 m) K) := fun m vs K => by kernel_rfl
theorem o43o2 : SumOk C43 KK (sumT T43o2 (L43o2 KK)) (.loop b43o2) := loop_ok T43o2 L43o2 (sums_of (t := ST43) ⟨fun _ _ h => absurd h (by decide), trivial⟩) (fun _ _ => rfl) q43o2
theorem r43 : ∀ vs, v43 vs = bodyK C43 (lkS ST43) Try.f43 (sig 43) c43 (fillAs A43 0 vs) := fun vs => by kernel_rfl
theorem ok43 : ∀ xs q, opt (g43 xs) = some q → evalBody Try.prog sig (Gd G dep (dep 43)) KK 43 xs = some q := fun xs q h => body_ok Try.func43 (c := c43) rfl A43 v43 (sums_of (C := C43) (t := ST43) ⟨sum_in (c' := .loop b43o2) (by kernel_rfl) o43o2, trivial⟩) r43 (opt_gOf h)
noncomputable def C45 : Ctx := ⟨Try.prog, sig, Gd G dep (dep 45), (sig 45).keep, (sig 45).ord⟩
noncomputable def c45 : Code := Try.f45.body.getD .skip
def ST45 : List (Nat × (St → Cont (List DV × List (List D)) → Rs)) := []
theorem r45 : ∀ vs, v45 vs = bodyK C45 (lkS ST45) Try.f45 (sig 45) c45 (fillAs A45 0 vs) := fun vs => by kernel_rfl
theorem ok45 : ∀ xs q, opt (g45 xs) = some q → evalBody Try.prog sig (Gd G dep (dep 45)) KK 45 xs = some q := fun xs q h => body_ok Try.func45 (c := c45) rfl A45 v45 (sums_of (C := C45) (t := ST45) trivial) r45 (opt_gOf h)
noncomputable def C119 : Ctx := ⟨Try.prog, sig, Gd G dep (dep 119), (sig 119).keep, (sig 119).ord⟩
noncomputable def c119 : Code := Try.f119.body.getD .skip
def T119o0 : TSt := ⟨[.d (.l), .d (.i .i64), .d (.i .i64), .any, .d (.i .i64), .d (.i .i64), .any, .any], []⟩
def X119o0e1 : TSt := ⟨[.d (.l), .d (.i .i64), .d (.i .i64), .d (.i .i64), .d (.i .i64), .d (.i .i64), .d (.b), .d (.b)], []⟩
def X119o0e2 : TSt := ⟨[.d (.l), .d (.i .i64), .d (.i .i64), .any, .d (.i .i64), .d (.i .i64), .d (.b), .any], []⟩
def L119o0 (m : Nat) (vs : List Vr) (K : Cont (List DV × List (List D))) : Rs := l119o0 (vL vs 0) (vI vs 1) (vI vs 2) (vI vs 4) (fun n24 b25 b26 => K .ret (fillS X119o0e1 [.l (vL vs 0), .i (vI vs 1), .i (n24), .i (n24), .i (vI vs 4), .i (n24), .b (b25), .b (b26)])) (fun v27 n28 b29 v30 => K (.exit 0) (fillS X119o0e2 [.l (vL vs 0), .i (vI vs 1), .i (vI vs 2), .v (v27), .i (vI vs 4), .i (n28), .b (b29), .v (v30)])) m (vV vs 3) (vI vs 5) (vV vs 6) (vV vs 7)
def ST119 : List (Nat × (St → Cont (List DV × List (List D)) → Rs)) := [(0, sumT T119o0 (L119o0 KK))]
noncomputable def b119o0 : Code := match nodeAt c119 0 with | some (.loop a) => a | _ => .skip
theorem q119o0 : ∀ m vs K, L119o0 (m + 1) vs K = denK C119 (lkS ST119) b119o0 1 (fillS T119o0 vs) (loopK T119o0 (L119o0 m) K) := fun m vs K => by kernel_rfl
theorem o119o0 : SumOk C119 KK (sumT T119o0 (L119o0 KK)) (.loop b119o0) := loop_ok T119o0 L119o0 (sums_of (t := ST119) ⟨fun _ _ h => absurd h (by decide), trivial⟩) (fun _ _ => rfl) q119o0
theorem r119 : ∀ vs, v119 vs = bodyK C119 (lkS ST119) Try.f119 (sig 119) c119 (fillAs A119 0 vs) := fun vs => by kernel_rfl
theorem ok119 : ∀ xs q, opt (g119 xs) = some q → evalBody Try.prog sig (Gd G dep (dep 119)) KK 119 xs = some q := fun xs q h => body_ok Try.func119 (c := c119) rfl A119 v119 (sums_of (C := C119) (t := ST119) ⟨sum_in (c' := .loop b119o0) (by kernel_rfl) o119o0, trivial⟩) r119 (opt_gOf h)
noncomputable def C82 : Ctx := ⟨Try.prog, sig, Gd G dep (dep 82), (sig 82).keep, (sig 82).ord⟩
noncomputable def c82 : Code := Try.f82.body.getD .skip
def ST82 : List (Nat × (St → Cont (List DV × List (List D)) → Rs)) := []
theorem r82 : ∀ vs, v82 vs = bodyK C82 (lkS ST82) Try.f82 (sig 82) c82 (fillAs A82 0 vs) := fun vs => by kernel_rfl
theorem ok82 : ∀ xs q, opt (g82 xs) = some q → evalBody Try.prog sig (Gd G dep (dep 82)) KK 82 xs = some q := fun xs q h => body_ok Try.func82 (c := c82) rfl A82 v82 (sums_of (C := C82) (t := ST82) trivial) r82 (opt_gOf h)
noncomputable def C83 : Ctx := ⟨Try.prog, sig, Gd G dep (dep 83), (sig 83).keep, (sig 83).ord⟩
noncomputable def c83 : Code := Try.f83.body.getD .skip
def ST83 : List (Nat × (St → Cont (List DV × List (List D)) → Rs)) := []
theorem r83 : ∀ vs, v83 vs = bodyK C83 (lkS ST83) Try.f83 (sig 83) c83 (fillAs A83 0 vs) := fun vs => by kernel_rfl
theorem ok83 : ∀ xs q, opt (g83 xs) = some q → evalBody Try.prog sig (Gd G dep (dep 83)) KK 83 xs = some q := fun xs q h => body_ok Try.func83 (c := c83) rfl A83 v83 (sums_of (C := C83) (t := ST83) trivial) r83 (opt_gOf h)
noncomputable def C46 : Ctx := ⟨Try.prog, sig, Gd G dep (dep 46), (sig 46).keep, (sig 46).ord⟩
noncomputable def c46 : Code := Try.f46.body.getD .skip
def T46o0 : TSt := ⟨[.pv [.i .i64, .i .i64, .i .i64, .i .i64, .i .i64, .i .i64, .i .i64, .i .i64, .l, .i .i64, .l, .l, .l] 0, .d (.b), .any, .any, .d (.l), .d (.i .i64), .d (.i .i64), .any, .any], []⟩
def X46o0e1 : TSt := ⟨[.pv [.i .i64, .i .i64, .i .i64, .i .i64, .i .i64, .i .i64, .i .i64, .i .i64, .l, .i .i64, .l, .l, .l] 0, .d (.b), .d (.i .i64), .d (.i .i64), .d (.l), .d (.i .i64), .d (.i .i64), .d (.b), .d (.b)], []⟩
def X46o0e2 : TSt := ⟨[.pv [.i .i64, .i .i64, .i .i64, .i .i64, .i .i64, .i .i64, .i .i64, .i .i64, .l, .i .i64, .l, .l, .l] 0, .d (.b), .any, .any, .d (.l), .d (.i .i64), .d (.i .i64), .d (.b), .any], []⟩
def L46o0 (m : Nat) (vs : List Vr) (K : Cont (List DV × List (List D))) : Rs := l46o0 (vI vs 0) (vI vs 1) (vI vs 2) (vI vs 3) (vI vs 4) (vI vs 5) (vI vs 6) (vI vs 7) (vL vs 8) (vI vs 9) (vL vs 10) (vL vs 11) (vL vs 12) (vB vs 13) (vL vs 16) (vI vs 17) (fun n73 n74 b75 b76 => K .ret (fillS X46o0e1 [.i (vI vs 0), .i (vI vs 1), .i (vI vs 2), .i (vI vs 3), .i (vI vs 4), .i (vI vs 5), .i (vI vs 6), .i (vI vs 7), .l (vL vs 8), .i (vI vs 9), .l (vL vs 10), .l (vL vs 11), .l (vL vs 12), .b (false), .i (n73), .i (n74), .l (vL vs 16), .i (vI vs 17), .i (n73), .b (b75), .b (b76)])) (fun v77 v78 n79 b80 v81 => K (.exit 0) (fillS X46o0e2 [.i (vI vs 0), .i (vI vs 1), .i (vI vs 2), .i (vI vs 3), .i (vI vs 4), .i (vI vs 5), .i (vI vs 6), .i (vI vs 7), .l (vL vs 8), .i (vI vs 9), .l (vL vs 10), .l (vL vs 11), .l (vL vs 12), .b (vB vs 13), .v (v77), .v (v78), .l (vL vs 16), .i (vI vs 17), .i (n79), .b (b80), .v (v81)])) m (vV vs 14) (vV vs 15) (vI vs 18) (vV vs 19) (vV vs 20)
def ST46 : List (Nat × (St → Cont (List DV × List (List D)) → Rs)) := [(0, sumT T46o0 (L46o0 KK))]
noncomputable def b46o0 : Code := match nodeAt c46 0 with | some (.loop a) => a | _ => .skip
theorem q46o0 : ∀ m vs K, L46o0 (m + 1) vs K = denK C46 (lkS ST46) b46o0 1 (fillS T46o0 vs) (loopK T46o0 (L46o0 m) K) := fun m vs K => by kernel_rfl
theorem o46o0 : SumOk C46 KK (sumT T46o0 (L46o0 KK)) (.loop b46o0) := loop_ok T46o0 L46o0 (sums_of (t := ST46) ⟨fun _ _ h => absurd h (by decide), trivial⟩) (fun _ _ => rfl) q46o0
theorem r46 : ∀ vs, v46 vs = bodyK C46 (lkS ST46) Try.f46 (sig 46) c46 (fillAs A46 0 vs) := fun vs => by kernel_rfl
theorem ok46 : ∀ xs q, opt (g46 xs) = some q → evalBody Try.prog sig (Gd G dep (dep 46)) KK 46 xs = some q := fun xs q h => body_ok Try.func46 (c := c46) rfl A46 v46 (sums_of (C := C46) (t := ST46) ⟨sum_in (c' := .loop b46o0) (by kernel_rfl) o46o0, trivial⟩) r46 (opt_gOf h)
noncomputable def C47 : Ctx := ⟨Try.prog, sig, Gd G dep (dep 47), (sig 47).keep, (sig 47).ord⟩
noncomputable def c47 : Code := Try.f47.body.getD .skip
def T47o1 : TSt := ⟨[.pv [.i .i64, .i .i64, .i .i64, .i .i64, .i .i64, .i .i64, .i .i64, .i .i64, .l, .i .i64, .l, .l, .l] 0, .d (.b), .any, .any, .d (.b), .d (.l), .d (.i .i64), .d (.i .i64), .any, .any], []⟩
def X47o1e1 : TSt := ⟨[.pv [.i .i64, .i .i64, .i .i64, .i .i64, .i .i64, .i .i64, .i .i64, .i .i64, .l, .i .i64, .l, .l, .l] 0, .d (.b), .d (.i .i64), .d (.i .i64), .d (.b), .d (.l), .d (.i .i64), .d (.i .i64), .d (.b), .d (.b)], []⟩
def X47o1e2 : TSt := ⟨[.pv [.i .i64, .i .i64, .i .i64, .i .i64, .i .i64, .i .i64, .i .i64, .i .i64, .l, .i .i64, .l, .l, .l] 0, .d (.b), .any, .any, .d (.b), .d (.l), .d (.i .i64), .d (.i .i64), .d (.b), .any], []⟩
def L47o1 (m : Nat) (vs : List Vr) (K : Cont (List DV × List (List D))) : Rs := l47o1 (vI vs 0) (vI vs 1) (vI vs 2) (vI vs 3) (vI vs 4) (vI vs 5) (vI vs 6) (vI vs 7) (vL vs 8) (vI vs 9) (vL vs 10) (vL vs 11) (vL vs 12) (vB vs 13) (vB vs 16) (vL vs 17) (vI vs 18) (fun n76 n77 b78 b79 => K .ret (fillS X47o1e1 [.i (vI vs 0), .i (vI vs 1), .i (vI vs 2), .i (vI vs 3), .i (vI vs 4), .i (vI vs 5), .i (vI vs 6), .i (vI vs 7), .l (vL vs 8), .i (vI vs 9), .l (vL vs 10), .l (vL vs 11), .l (vL vs 12), .b (false), .i (n76), .i (n77), .b (vB vs 16), .l (vL vs 17), .i (vI vs 18), .i (n76), .b (b78), .b (b79)])) (fun v80 v81 n82 b83 v84 => K (.exit 0) (fillS X47o1e2 [.i (vI vs 0), .i (vI vs 1), .i (vI vs 2), .i (vI vs 3), .i (vI vs 4), .i (vI vs 5), .i (vI vs 6), .i (vI vs 7), .l (vL vs 8), .i (vI vs 9), .l (vL vs 10), .l (vL vs 11), .l (vL vs 12), .b (vB vs 13), .v (v80), .v (v81), .b (vB vs 16), .l (vL vs 17), .i (vI vs 18), .i (n82), .b (b83), .v (v84)])) m (vV vs 14) (vV vs 15) (vI vs 19) (vV vs 20) (vV vs 21)
def ST47 : List (Nat × (St → Cont (List DV × List (List D)) → Rs)) := [(1, sumT T47o1 (L47o1 KK))]
noncomputable def b47o1 : Code := match nodeAt c47 1 with | some (.loop a) => a | _ => .skip
theorem q47o1 : ∀ m vs K, L47o1 (m + 1) vs K = denK C47 (lkS ST47) b47o1 2 (fillS T47o1 vs) (loopK T47o1 (L47o1 m) K) := fun m vs K => by kernel_rfl
theorem o47o1 : SumOk C47 KK (sumT T47o1 (L47o1 KK)) (.loop b47o1) := loop_ok T47o1 L47o1 (sums_of (t := ST47) ⟨fun _ _ h => absurd h (by decide), trivial⟩) (fun _ _ => rfl) q47o1
theorem r47 : ∀ vs, v47 vs = bodyK C47 (lkS ST47) Try.f47 (sig 47) c47 (fillAs A47 0 vs) := fun vs => by kernel_rfl
theorem ok47 : ∀ xs q, opt (g47 xs) = some q → evalBody Try.prog sig (Gd G dep (dep 47)) KK 47 xs = some q := fun xs q h => body_ok Try.func47 (c := c47) rfl A47 v47 (sums_of (C := C47) (t := ST47) ⟨sum_in (c' := .loop b47o1) (by kernel_rfl) o47o1, trivial⟩) r47 (opt_gOf h)
noncomputable def C12 : Ctx := ⟨Try.prog, sig, Gd G dep (dep 12), (sig 12).keep, (sig 12).ord⟩
noncomputable def c12 : Code := Try.f12.body.getD .skip
def ST12 : List (Nat × (St → Cont (List DV × List (List D)) → Rs)) := []
theorem r12 : ∀ vs, v12 vs = bodyK C12 (lkS ST12) Try.f12 (sig 12) c12 (fillAs A12 0 vs) := fun vs => by kernel_rfl
theorem ok12 : ∀ xs q, opt (g12 xs) = some q → evalBody Try.prog sig (Gd G dep (dep 12)) KK 12 xs = some q := fun xs q h => body_ok Try.func12 (c := c12) rfl A12 v12 (sums_of (C := C12) (t := ST12) trivial) r12 (opt_gOf h)
noncomputable def C84 : Ctx := ⟨Try.prog, sig, Gd G dep (dep 84), (sig 84).keep, (sig 84).ord⟩
noncomputable def c84 : Code := Try.f84.body.getD .skip
def ST84 : List (Nat × (St → Cont (List DV × List (List D)) → Rs)) := []
theorem r84 : ∀ vs, v84 vs = bodyK C84 (lkS ST84) Try.f84 (sig 84) c84 (fillAs A84 0 vs) := fun vs => by kernel_rfl
theorem ok84 : ∀ xs q, opt (g84 xs) = some q → evalBody Try.prog sig (Gd G dep (dep 84)) KK 84 xs = some q := fun xs q h => body_ok Try.func84 (c := c84) rfl A84 v84 (sums_of (C := C84) (t := ST84) trivial) r84 (opt_gOf h)
noncomputable def C48 : Ctx := ⟨Try.prog, sig, Gd G dep (dep 48), (sig 48).keep, (sig 48).ord⟩
noncomputable def c48 : Code := Try.f48.body.getD .skip
def T48o1 : TSt := ⟨[.d (.l), .d (.l), .d (.b), .d (.i .i64), .d (.b), .any, .any], []⟩
def X48o1e1 : TSt := ⟨[.d (.l), .d (.l), .d (.b), .d (.i .i64), .d (.b), .d (.b), .d (.b)], []⟩
def X48o1e2 : TSt := ⟨[.d (.l), .d (.l), .d (.b), .d (.i .i64), .d (.b), .d (.b), .any], []⟩
def L48o1 (m : Nat) (vs : List Vr) (K : Cont (List DV × List (List D))) : Rs := l48o1 (vL vs 0) (vL vs 1) (vB vs 2) (vB vs 4) (fun n22 b23 b24 => K .ret (fillS X48o1e1 [.l (vL vs 0), .l (vL vs 1), .b (false), .i (n22), .b (vB vs 4), .b (b23), .b (b24)])) (fun n25 b26 v27 => K (.exit 0) (fillS X48o1e2 [.l (vL vs 0), .l (vL vs 1), .b (vB vs 2), .i (n25), .b (vB vs 4), .b (b26), .v (v27)])) m (vI vs 3) (vV vs 5) (vV vs 6)
def ST48 : List (Nat × (St → Cont (List DV × List (List D)) → Rs)) := [(1, sumT T48o1 (L48o1 KK))]
noncomputable def b48o1 : Code := match nodeAt c48 1 with | some (.loop a) => a | _ => .skip
theorem q48o1 : ∀ m vs K, L48o1 (m + 1) vs K = denK C48 (lkS ST48) b48o1 2 (fillS T48o1 vs) (loopK T48o1 (L48o1 m) K) := fun m vs K => by kernel_rfl
theorem o48o1 : SumOk C48 KK (sumT T48o1 (L48o1 KK)) (.loop b48o1) := loop_ok T48o1 L48o1 (sums_of (t := ST48) ⟨fun _ _ h => absurd h (by decide), trivial⟩) (fun _ _ => rfl) q48o1
theorem r48 : ∀ vs, v48 vs = bodyK C48 (lkS ST48) Try.f48 (sig 48) c48 (fillAs A48 0 vs) := fun vs => by kernel_rfl
theorem ok48 : ∀ xs q, opt (g48 xs) = some q → evalBody Try.prog sig (Gd G dep (dep 48)) KK 48 xs = some q := fun xs q h => body_ok Try.func48 (c := c48) rfl A48 v48 (sums_of (C := C48) (t := ST48) ⟨sum_in (c' := .loop b48o1) (by kernel_rfl) o48o1, trivial⟩) r48 (opt_gOf h)
noncomputable def C49 : Ctx := ⟨Try.prog, sig, Gd G dep (dep 49), (sig 49).keep, (sig 49).ord⟩
noncomputable def c49 : Code := Try.f49.body.getD .skip
def T49o1 : TSt := ⟨[.d (.l), .d (.l), .d (.b), .d (.i .i64), .d (.b), .any, .any], []⟩
def X49o1e1 : TSt := ⟨[.d (.l), .d (.l), .d (.b), .d (.i .i64), .d (.b), .d (.b), .d (.b)], []⟩
def X49o1e2 : TSt := ⟨[.d (.l), .d (.l), .d (.b), .d (.i .i64), .d (.b), .d (.b), .any], []⟩
def L49o1 (m : Nat) (vs : List Vr) (K : Cont (List DV × List (List D))) : Rs := l49o1 (vL vs 0) (vL vs 1) (vB vs 2) (vB vs 4) (fun n22 b23 b24 => K .ret (fillS X49o1e1 [.l (vL vs 0), .l (vL vs 1), .b (false), .i (n22), .b (vB vs 4), .b (b23), .b (b24)])) (fun n25 b26 v27 => K (.exit 0) (fillS X49o1e2 [.l (vL vs 0), .l (vL vs 1), .b (vB vs 2), .i (n25), .b (vB vs 4), .b (b26), .v (v27)])) m (vI vs 3) (vV vs 5) (vV vs 6)
def ST49 : List (Nat × (St → Cont (List DV × List (List D)) → Rs)) := [(1, sumT T49o1 (L49o1 KK))]
noncomputable def b49o1 : Code := match nodeAt c49 1 with | some (.loop a) => a | _ => .skip
theorem q49o1 : ∀ m vs K, L49o1 (m + 1) vs K = denK C49 (lkS ST49) b49o1 2 (fillS T49o1 vs) (loopK T49o1 (L49o1 m) K) := fun m vs K => by kernel_rfl
theorem o49o1 : SumOk C49 KK (sumT T49o1 (L49o1 KK)) (.loop b49o1) := loop_ok T49o1 L49o1 (sums_of (t := ST49) ⟨fun _ _ h => absurd h (by decide), trivial⟩) (fun _ _ => rfl) q49o1
theorem r49 : ∀ vs, v49 vs = bodyK C49 (lkS ST49) Try.f49 (sig 49) c49 (fillAs A49 0 vs) := fun vs => by kernel_rfl
theorem ok49 : ∀ xs q, opt (g49 xs) = some q → evalBody Try.prog sig (Gd G dep (dep 49)) KK 49 xs = some q := fun xs q h => body_ok Try.func49 (c := c49) rfl A49 v49 (sums_of (C := C49) (t := ST49) ⟨sum_in (c' := .loop b49o1) (by kernel_rfl) o49o1, trivial⟩) r49 (opt_gOf h)
noncomputable def C13 : Ctx := ⟨Try.prog, sig, Gd G dep (dep 13), (sig 13).keep, (sig 13).ord⟩
noncomputable def c13 : Code := Try.f13.body.getD .skip
def ST13 : List (Nat × (St → Cont (List DV × List (List D)) → Rs)) := []
theorem r13 : ∀ vs, v13 vs = bodyK C13 (lkS ST13) Try.f13 (sig 13) c13 (fillAs A13 0 vs) := fun vs => by kernel_rfl
theorem ok13 : ∀ xs q, opt (g13 xs) = some q → evalBody Try.prog sig (Gd G dep (dep 13)) KK 13 xs = some q := fun xs q h => body_ok Try.func13 (c := c13) rfl A13 v13 (sums_of (C := C13) (t := ST13) trivial) r13 (opt_gOf h)
noncomputable def C3 : Ctx := ⟨Try.prog, sig, Gd G dep (dep 3), (sig 3).keep, (sig 3).ord⟩
noncomputable def c3 : Code := Try.f3.body.getD .skip
def ST3 : List (Nat × (St → Cont (List DV × List (List D)) → Rs)) := []
theorem r3 : ∀ vs, v3 vs = bodyK C3 (lkS ST3) Try.f3 (sig 3) c3 (fillAs A3 0 vs) := fun vs => by kernel_rfl
theorem ok3 : ∀ xs q, opt (g3 xs) = some q → evalBody Try.prog sig (Gd G dep (dep 3)) KK 3 xs = some q := fun xs q h => body_ok Try.func3 (c := c3) rfl A3 v3 (sums_of (C := C3) (t := ST3) trivial) r3 (opt_gOf h)
theorem fn_ok : ∀ f ∈ [79, 33, 34, 9, 81, 40, 41, 11, 35, 37, 80, 36, 38, 39, 10, 42, 44, 43, 45, 119, 82, 83, 46, 47, 12, 84, 48, 49, 13, 3], FnOk Try.prog sig f := fun f h => fnOk_of (List.all_eq_true.1 (show [79, 33, 34, 9, 81, 40, 41, 11, 35, 37, 80, 36, 38, 39, 10, 42, 44, 43, 45, 119, 82, 83, 46, 47, 12, 84, 48, 49, 13, 3].all (fnOkB Try.prog sig) = true by kernel_rfl) f h)
theorem all_ok : AllG (fun f xs q => FnOk Try.prog sig f ∧ evalBody Try.prog sig (Gd G dep (dep f)) KK f xs = some q) gT :=
  ⟨fun xs q h => ⟨fn_ok 79 (by simp), ok79 xs q h⟩, fun xs q h => ⟨fn_ok 33 (by simp), ok33 xs q h⟩, fun xs q h => ⟨fn_ok 34 (by simp), ok34 xs q h⟩, fun xs q h => ⟨fn_ok 9 (by simp), ok9 xs q h⟩, fun xs q h => ⟨fn_ok 81 (by simp), ok81 xs q h⟩, fun xs q h => ⟨fn_ok 40 (by simp), ok40 xs q h⟩, fun xs q h => ⟨fn_ok 41 (by simp), ok41 xs q h⟩, fun xs q h => ⟨fn_ok 11 (by simp), ok11 xs q h⟩, fun xs q h => ⟨fn_ok 35 (by simp), ok35 xs q h⟩, fun xs q h => ⟨fn_ok 37 (by simp), ok37 xs q h⟩, fun xs q h => ⟨fn_ok 80 (by simp), ok80 xs q h⟩, fun xs q h => ⟨fn_ok 36 (by simp), ok36 xs q h⟩, fun xs q h => ⟨fn_ok 38 (by simp), ok38 xs q h⟩, fun xs q h => ⟨fn_ok 39 (by simp), ok39 xs q h⟩, fun xs q h => ⟨fn_ok 10 (by simp), ok10 xs q h⟩, fun xs q h => ⟨fn_ok 42 (by simp), ok42 xs q h⟩, fun xs q h => ⟨fn_ok 44 (by simp), ok44 xs q h⟩, fun xs q h => ⟨fn_ok 43 (by simp), ok43 xs q h⟩, fun xs q h => ⟨fn_ok 45 (by simp), ok45 xs q h⟩, fun xs q h => ⟨fn_ok 119 (by simp), ok119 xs q h⟩, fun xs q h => ⟨fn_ok 82 (by simp), ok82 xs q h⟩, fun xs q h => ⟨fn_ok 83 (by simp), ok83 xs q h⟩, fun xs q h => ⟨fn_ok 46 (by simp), ok46 xs q h⟩, fun xs q h => ⟨fn_ok 47 (by simp), ok47 xs q h⟩, fun xs q h => ⟨fn_ok 12 (by simp), ok12 xs q h⟩, fun xs q h => ⟨fn_ok 84 (by simp), ok84 xs q h⟩, fun xs q h => ⟨fn_ok 48 (by simp), ok48 xs q h⟩, fun xs q h => ⟨fn_ok 49 (by simp), ok49 xs q h⟩, fun xs q h => ⟨fn_ok 13 (by simp), ok13 xs q h⟩, fun xs q h => ⟨fn_ok 3 (by simp), ok3 xs q h⟩, trivial⟩
theorem G_ok (f : Nat) : SpecOk Try.prog (sig f) (fun xs => opt (G f xs)) f := G_spec (by kernel_rfl) (allG_of all_ok) f
end
end Go.Den.L3
