/- The functions' table, and that each is what its twin says. Printed by tw.py. -/
import Derived.Test.YtkokejemgekfaaaL7Tw
import Derived.Test.YtkokejemgekfaaaProg
import Derived.KernelRfl
set_option linter.unusedVariables false
namespace Go.Den.L7
open Go Go.Proofs
noncomputable section
set_option maxRecDepth 100000
def sg23 : Sig := ⟨[.bor, .bor], .sc [.one (.i .i64 0)], [0, 1, 2, 4, 11, 18, 25], []⟩
def sg19 : Sig := ⟨[.bor, .bor], .sc [.one (.i .i64 0)], [0, 1, 2, 4, 10], []⟩
def sg25 : Sig := ⟨[.bor], .sc [.agg [.i .i64 0, .s ⟨#[]⟩, .s ⟨#[]⟩, .i .i64 0, .i .i64 0, .s ⟨#[]⟩]], [0, 1, 2, 3], []⟩
def sg21 : Sig := ⟨[.bor], .sc [.agg [.i .i64 0, .i .i64 0, .i .i64 0, .b false, .i .i64 0, .s ⟨#[]⟩, .s ⟨#[]⟩, .i .i64 0, .i .i64 0, .s ⟨#[]⟩, .i .i64 0]], [0, 1, 2, 3], []⟩
def sg64 : Sig := ⟨[.bor], .sc [.one (.b false)], [0, 2], []⟩
def sg60 : Sig := ⟨[.bor, .bor, .bor], .sc [.one (.b false)], [0, 1, 2, 6], []⟩
def sg61 : Sig := ⟨[.bor], .sc [.one (.b false)], [0, 1, 2, 36, 54], []⟩
def sg20 : Sig := ⟨[.bor], .sc [.one (.b false)], [0, 1, 2, 24, 26], []⟩
def sg89 : Sig := ⟨[.bor], .sc [.one (.s ⟨#[]⟩)], [0, 2, 3, 6, 9], []⟩
def sg110 : Sig := ⟨[.bor], .sc [.one (.s ⟨#[]⟩)], [0, 2], []⟩
def sg111 : Sig := ⟨[.bor], .sc [.one (.s ⟨#[]⟩)], [0, 2, 4], []⟩
def sg69 : Sig := ⟨[.bor], .sc [.one (.s ⟨#[]⟩)], [0, 1, 2, 5], [(3, [(0, 0, []), (1, 0, []), (2, 0, []), (3, 0, []), (4, 0, []), (5, 0, []), (6, 0, []), (7, 0, []), (8, 0, []), (9, 0, []), (10, 0, []), (11, 0, []), (12, 0, []), (13, 0, []), (14, 0, []), (15, 0, []), (16, 0, []), (17, 0, []), (18, 0, []), (19, 0, []), (20, 0, []), (21, 0, []), (22, 0, []), (23, 0, [])])]⟩
def sg33 : Sig := ⟨[.bor, .bor], .sc [.agg [.i .i64 0, .i .i64 0, .i .i64 0, .b false, .i .i64 0, .s ⟨#[]⟩], .one (.b false)], [0, 1, 2, 4, 5, 21], [(3, [(0, 0, []), (1, 0, []), (2, 0, []), (3, 0, []), (4, 0, []), (5, 0, []), (6, 0, []), (7, 0, []), (8, 0, []), (9, 0, []), (10, 0, []), (11, 1, []), (12, 0, [])])]⟩
def sg62 : Sig := ⟨[.bor, .bor, .bor], .sc [.one (.b false)], [0, 1, 2, 6], []⟩
def sg63 : Sig := ⟨[.bor], .sc [.one (.b false)], [0, 1, 2, 3, 4, 41], []⟩
def sg22 : Sig := ⟨[.bor], .sc [.one (.b false)], [0, 1, 2, 24, 26], []⟩
def sg91 : Sig := ⟨[.bor], .sc [.one (.s ⟨#[]⟩)], [0, 2, 3, 6, 9], []⟩
def sg83 : Sig := ⟨[.bor], .sc [.one (.s ⟨#[]⟩)], [0, 2], []⟩
def sg112 : Sig := ⟨[.bor], .sc [.one (.i .i64 0)], [0, 2, 4], []⟩
def sg82 : Sig := ⟨[.bor], .sc [.one (.s ⟨#[]⟩)], [0, 2, 3, 5, 6, 7, 8, 9], []⟩
def sg70 : Sig := ⟨[.bor], .sc [.one (.s ⟨#[]⟩)], [0, 1, 2, 5], [(3, [(0, 0, []), (1, 0, []), (2, 0, []), (3, 0, []), (4, 0, []), (5, 0, []), (6, 0, []), (7, 0, []), (8, 0, []), (9, 0, []), (10, 0, []), (11, 0, []), (12, 0, []), (13, 0, []), (14, 0, []), (15, 0, []), (16, 0, []), (20, 0, []), (21, 0, []), (17, 1, [6, 10, 20, 21]), (18, 0, []), (19, 0, []), (22, 0, []), (23, 0, []), (24, 0, [])])]⟩
def sg34 : Sig := ⟨[.bor, .bor], .sc [.agg [.i .i64 0, .i .i64 0, .i .i64 0, .b false, .i .i64 0, .s ⟨#[]⟩], .one (.b false)], [0, 1, 2, 4, 5, 18], [(3, [(0, 0, []), (1, 0, []), (2, 0, []), (3, 0, []), (4, 0, []), (5, 0, []), (6, 0, []), (7, 0, []), (8, 0, []), (9, 0, []), (10, 0, []), (11, 1, []), (12, 0, [])])]⟩
def sg35 : Sig := ⟨[.bor, .bor], .sc [.one (.b false)], [0, 1, 2, 3, 4, 9, 14, 19, 24, 29, 34], []⟩
def sg7 : Sig := ⟨[.bor, .bor], .sc [.one (.b false)], [0, 1, 2, 4, 5, 6, 7, 8, 9, 14, 37], []⟩
def sig : Nat → Sig := lkF ⟨[], .fresh [], [], []⟩ [(23, sg23), (19, sg19), (25, sg25), (21, sg21), (64, sg64), (60, sg60), (61, sg61), (20, sg20), (89, sg89), (110, sg110), (111, sg111), (69, sg69), (33, sg33), (62, sg62), (63, sg63), (22, sg22), (91, sg91), (83, sg83), (112, sg112), (82, sg82), (70, sg70), (34, sg34), (35, sg35), (7, sg7)]
def dep : Nat → Nat := lkF 0 [(23, 1), (19, 2), (25, 1), (21, 2), (64, 1), (60, 1), (61, 2), (20, 3), (89, 2), (110, 3), (111, 3), (69, 4), (33, 5), (62, 1), (63, 2), (22, 3), (91, 2), (83, 3), (112, 1), (82, 3), (70, 4), (34, 5), (35, 1), (7, 6)]
def gT : List (Nat × (List DV → Bool × List DV × List (List D))) := [(23, g23), (19, g19), (25, g25), (21, g21), (64, g64), (60, g60), (61, g61), (20, g20), (89, g89), (110, g110), (111, g111), (69, g69), (33, g33), (62, g62), (63, g63), (22, g22), (91, g91), (83, g83), (112, g112), (82, g82), (70, g70), (34, g34), (35, g35), (7, g7)]
def G : Nat → List DV → Bool × List DV × List (List D) := lkF (fun _ => (false, [], [])) gT
noncomputable def C23 : Ctx := ⟨Try.prog, sig, Gd G dep (dep 23), (sig 23).keep, (sig 23).ord⟩
noncomputable def c23 : Code := Try.f23.body.getD .skip
def ST23 : List (Nat × (St → Cont (List DV × List (List D)) → Rs)) := []
theorem r23 : ∀ vs, v23 vs = bodyK C23 (lkS ST23) Try.f23 (sig 23) c23 (fillAs A23 0 vs) := fun vs => by kernel_rfl
theorem ok23 : ∀ xs q, opt (g23 xs) = some q → evalBody Try.prog sig (Gd G dep (dep 23)) KK 23 xs = some q := fun xs q h => body_ok Try.func23 (c := c23) rfl A23 v23 (sums_of (C := C23) (t := ST23) trivial) r23 (opt_gOf h)
noncomputable def C19 : Ctx := ⟨Try.prog, sig, Gd G dep (dep 19), (sig 19).keep, (sig 19).ord⟩
noncomputable def c19 : Code := Try.f19.body.getD .skip
def ST19 : List (Nat × (St → Cont (List DV × List (List D)) → Rs)) := []
theorem r19 : ∀ vs, v19 vs = bodyK C19 (lkS ST19) Try.f19 (sig 19) c19 (fillAs A19 0 vs) := fun vs => by kernel_rfl
theorem ok19 : ∀ xs q, opt (g19 xs) = some q → evalBody Try.prog sig (Gd G dep (dep 19)) KK 19 xs = some q := fun xs q h => body_ok Try.func19 (c := c19) rfl A19 v19 (sums_of (C := C19) (t := ST19) trivial) r19 (opt_gOf h)
noncomputable def C25 : Ctx := ⟨Try.prog, sig, Gd G dep (dep 25), (sig 25).keep, (sig 25).ord⟩
noncomputable def c25 : Code := Try.f25.body.getD .skip
def ST25 : List (Nat × (St → Cont (List DV × List (List D)) → Rs)) := []
theorem r25 : ∀ vs, v25 vs = bodyK C25 (lkS ST25) Try.f25 (sig 25) c25 (fillAs A25 0 vs) := fun vs => by kernel_rfl
theorem ok25 : ∀ xs q, opt (g25 xs) = some q → evalBody Try.prog sig (Gd G dep (dep 25)) KK 25 xs = some q := fun xs q h => body_ok Try.func25 (c := c25) rfl A25 v25 (sums_of (C := C25) (t := ST25) trivial) r25 (opt_gOf h)
noncomputable def C21 : Ctx := ⟨Try.prog, sig, Gd G dep (dep 21), (sig 21).keep, (sig 21).ord⟩
noncomputable def c21 : Code := Try.f21.body.getD .skip
def ST21 : List (Nat × (St → Cont (List DV × List (List D)) → Rs)) := []
theorem r21 : ∀ vs, v21 vs = bodyK C21 (lkS ST21) Try.f21 (sig 21) c21 (fillAs A21 0 vs) := fun vs => by kernel_rfl
theorem ok21 : ∀ xs q, opt (g21 xs) = some q → evalBody Try.prog sig (Gd G dep (dep 21)) KK 21 xs = some q := fun xs q h => body_ok Try.func21 (c := c21) rfl A21 v21 (sums_of (C := C21) (t := ST21) trivial) r21 (opt_gOf h)
noncomputable def C64 : Ctx := ⟨Try.prog, sig, Gd G dep (dep 64), (sig 64).keep, (sig 64).ord⟩
noncomputable def c64 : Code := Try.f64.body.getD .skip
def ST64 : List (Nat × (St → Cont (List DV × List (List D)) → Rs)) := []
theorem r64 : ∀ vs, v64 vs = bodyK C64 (lkS ST64) Try.f64 (sig 64) c64 (fillAs A64 0 vs) := fun vs => by kernel_rfl
theorem ok64 : ∀ xs q, opt (g64 xs) = some q → evalBody Try.prog sig (Gd G dep (dep 64)) KK 64 xs = some q := fun xs q h => body_ok Try.func64 (c := c64) rfl A64 v64 (sums_of (C := C64) (t := ST64) trivial) r64 (opt_gOf h)
noncomputable def C60 : Ctx := ⟨Try.prog, sig, Gd G dep (dep 60), (sig 60).keep, (sig 60).ord⟩
noncomputable def c60 : Code := Try.f60.body.getD .skip
def ST60 : List (Nat × (St → Cont (List DV × List (List D)) → Rs)) := []
theorem r60 : ∀ vs, v60 vs = bodyK C60 (lkS ST60) Try.f60 (sig 60) c60 (fillAs A60 0 vs) := fun vs => by kernel_rfl
theorem ok60 : ∀ xs q, opt (g60 xs) = some q → evalBody Try.prog sig (Gd G dep (dep 60)) KK 60 xs = some q := fun xs q h => body_ok Try.func60 (c := c60) rfl A60 v60 (sums_of (C := C60) (t := ST60) trivial) r60 (opt_gOf h)
noncomputable def C61 : Ctx := ⟨Try.prog, sig, Gd G dep (dep 61), (sig 61).keep, (sig 61).ord⟩
noncomputable def c61 : Code := Try.f61.body.getD .skip
def ST61 : List (Nat × (St → Cont (List DV × List (List D)) → Rs)) := []
theorem r61 : ∀ vs, v61 vs = bodyK C61 (lkS ST61) Try.f61 (sig 61) c61 (fillAs A61 0 vs) := fun vs => by kernel_rfl
theorem ok61 : ∀ xs q, opt (g61 xs) = some q → evalBody Try.prog sig (Gd G dep (dep 61)) KK 61 xs = some q := fun xs q h => body_ok Try.func61 (c := c61) rfl A61 v61 (sums_of (C := C61) (t := ST61) trivial) r61 (opt_gOf h)
noncomputable def C20 : Ctx := ⟨Try.prog, sig, Gd G dep (dep 20), (sig 20).keep, (sig 20).ord⟩
noncomputable def c20 : Code := Try.f20.body.getD .skip
def ST20 : List (Nat × (St → Cont (List DV × List (List D)) → Rs)) := []
theorem r20 : ∀ vs, v20 vs = bodyK C20 (lkS ST20) Try.f20 (sig 20) c20 (fillAs A20 0 vs) := fun vs => by kernel_rfl
theorem ok20 : ∀ xs q, opt (g20 xs) = some q → evalBody Try.prog sig (Gd G dep (dep 20)) KK 20 xs = some q := fun xs q h => body_ok Try.func20 (c := c20) rfl A20 v20 (sums_of (C := C20) (t := ST20) trivial) r20 (opt_gOf h)
noncomputable def C89 : Ctx := ⟨Try.prog, sig, Gd G dep (dep 89), (sig 89).keep, (sig 89).ord⟩
noncomputable def c89 : Code := Try.f89.body.getD .skip
def T89o1 : TSt := ⟨[.d (.i .i64), .d (.s), .own 448, .d (.b), .any], [(448, .row 5 1)]⟩
def X89o1e1 : TSt := ⟨[.d (.i .i64), .d (.s), .own 448, .d (.b), .d (.b)], [(448, .row 5 1)]⟩
def L89o1 (m : Nat) (vs : List Vr) (K : Cont (List DV × List (List D))) : Rs := l89o1 (vS vs 1) (vB vs 2) (fun n16 b17 l18 => K (.exit 0) (fillS X89o1e1 [.i (n16), .s (vS vs 1), .b (vB vs 2), .b (b17), .l (l18)])) m (vI vs 0) (vV vs 3) (vL vs 4)
def ST89 : List (Nat × (St → Cont (List DV × List (List D)) → Rs)) := [(1, sumT T89o1 (L89o1 KK))]
noncomputable def b89o1 : Code := match nodeAt c89 1 with | some (.loop a) => a | _ => .skip
theorem q89o1 : ∀ m vs K, L89o1 (m + 1) vs K = denK C89 (lkS ST89) b89o1 2 (fillS T89o1 vs) (loopK T89o1 (L89o1 m) K) := fun m vs K => by kernel_rfl
theorem o89o1 : SumOk C89 KK (sumT T89o1 (L89o1 KK)) (.loop b89o1) := loop_ok T89o1 L89o1 (sums_of (t := ST89) ⟨fun _ _ h => absurd h (by decide), trivial⟩) (fun _ _ => rfl) q89o1
theorem r89 : ∀ vs, v89 vs = bodyK C89 (lkS ST89) Try.f89 (sig 89) c89 (fillAs A89 0 vs) := fun vs => by kernel_rfl
theorem ok89 : ∀ xs q, opt (g89 xs) = some q → evalBody Try.prog sig (Gd G dep (dep 89)) KK 89 xs = some q := fun xs q h => body_ok Try.func89 (c := c89) rfl A89 v89 (sums_of (C := C89) (t := ST89) ⟨sum_in (c' := .loop b89o1) (by kernel_rfl) o89o1, trivial⟩) r89 (opt_gOf h)
noncomputable def C110 : Ctx := ⟨Try.prog, sig, Gd G dep (dep 110), (sig 110).keep, (sig 110).ord⟩
noncomputable def c110 : Code := Try.f110.body.getD .skip
def ST110 : List (Nat × (St → Cont (List DV × List (List D)) → Rs)) := []
theorem r110 : ∀ vs, v110 vs = bodyK C110 (lkS ST110) Try.f110 (sig 110) c110 (fillAs A110 0 vs) := fun vs => by kernel_rfl
theorem ok110 : ∀ xs q, opt (g110 xs) = some q → evalBody Try.prog sig (Gd G dep (dep 110)) KK 110 xs = some q := fun xs q h => body_ok Try.func110 (c := c110) rfl A110 v110 (sums_of (C := C110) (t := ST110) trivial) r110 (opt_gOf h)
noncomputable def C111 : Ctx := ⟨Try.prog, sig, Gd G dep (dep 111), (sig 111).keep, (sig 111).ord⟩
noncomputable def c111 : Code := Try.f111.body.getD .skip
def ST111 : List (Nat × (St → Cont (List DV × List (List D)) → Rs)) := []
theorem r111 : ∀ vs, v111 vs = bodyK C111 (lkS ST111) Try.f111 (sig 111) c111 (fillAs A111 0 vs) := fun vs => by kernel_rfl
theorem ok111 : ∀ xs q, opt (g111 xs) = some q → evalBody Try.prog sig (Gd G dep (dep 111)) KK 111 xs = some q := fun xs q h => body_ok Try.func111 (c := c111) rfl A111 v111 (sums_of (C := C111) (t := ST111) trivial) r111 (opt_gOf h)
noncomputable def C69 : Ctx := ⟨Try.prog, sig, Gd G dep (dep 69), (sig 69).keep, (sig 69).ord⟩
noncomputable def c69 : Code := Try.f69.body.getD .skip
def ST69 : List (Nat × (St → Cont (List DV × List (List D)) → Rs)) := []
theorem r69 : ∀ vs, v69 vs = bodyK C69 (lkS ST69) Try.f69 (sig 69) c69 (fillAs A69 0 vs) := fun vs => by kernel_rfl
theorem ok69 : ∀ xs q, opt (g69 xs) = some q → evalBody Try.prog sig (Gd G dep (dep 69)) KK 69 xs = some q := fun xs q h => body_ok Try.func69 (c := c69) rfl A69 v69 (sums_of (C := C69) (t := ST69) trivial) r69 (opt_gOf h)
noncomputable def C33 : Ctx := ⟨Try.prog, sig, Gd G dep (dep 33), (sig 33).keep, (sig 33).ord⟩
noncomputable def c33 : Code := Try.f33.body.getD .skip
def ST33 : List (Nat × (St → Cont (List DV × List (List D)) → Rs)) := []
theorem r33 : ∀ vs, v33 vs = bodyK C33 (lkS ST33) Try.f33 (sig 33) c33 (fillAs A33 0 vs) := fun vs => by kernel_rfl
theorem ok33 : ∀ xs q, opt (g33 xs) = some q → evalBody Try.prog sig (Gd G dep (dep 33)) KK 33 xs = some q := fun xs q h => body_ok Try.func33 (c := c33) rfl A33 v33 (sums_of (C := C33) (t := ST33) trivial) r33 (opt_gOf h)
noncomputable def C62 : Ctx := ⟨Try.prog, sig, Gd G dep (dep 62), (sig 62).keep, (sig 62).ord⟩
noncomputable def c62 : Code := Try.f62.body.getD .skip
def ST62 : List (Nat × (St → Cont (List DV × List (List D)) → Rs)) := []
theorem r62 : ∀ vs, v62 vs = bodyK C62 (lkS ST62) Try.f62 (sig 62) c62 (fillAs A62 0 vs) := fun vs => by kernel_rfl
theorem ok62 : ∀ xs q, opt (g62 xs) = some q → evalBody Try.prog sig (Gd G dep (dep 62)) KK 62 xs = some q := fun xs q h => body_ok Try.func62 (c := c62) rfl A62 v62 (sums_of (C := C62) (t := ST62) trivial) r62 (opt_gOf h)
noncomputable def C63 : Ctx := ⟨Try.prog, sig, Gd G dep (dep 63), (sig 63).keep, (sig 63).ord⟩
noncomputable def c63 : Code := Try.f63.body.getD .skip
def ST63 : List (Nat × (St → Cont (List DV × List (List D)) → Rs)) := []
theorem r63 : ∀ vs, v63 vs = bodyK C63 (lkS ST63) Try.f63 (sig 63) c63 (fillAs A63 0 vs) := fun vs => by kernel_rfl
theorem ok63 : ∀ xs q, opt (g63 xs) = some q → evalBody Try.prog sig (Gd G dep (dep 63)) KK 63 xs = some q := fun xs q h => body_ok Try.func63 (c := c63) rfl A63 v63 (sums_of (C := C63) (t := ST63) trivial) r63 (opt_gOf h)
noncomputable def C22 : Ctx := ⟨Try.prog, sig, Gd G dep (dep 22), (sig 22).keep, (sig 22).ord⟩
noncomputable def c22 : Code := Try.f22.body.getD .skip
def ST22 : List (Nat × (St → Cont (List DV × List (List D)) → Rs)) := []
theorem r22 : ∀ vs, v22 vs = bodyK C22 (lkS ST22) Try.f22 (sig 22) c22 (fillAs A22 0 vs) := fun vs => by kernel_rfl
theorem ok22 : ∀ xs q, opt (g22 xs) = some q → evalBody Try.prog sig (Gd G dep (dep 22)) KK 22 xs = some q := fun xs q h => body_ok Try.func22 (c := c22) rfl A22 v22 (sums_of (C := C22) (t := ST22) trivial) r22 (opt_gOf h)
noncomputable def C91 : Ctx := ⟨Try.prog, sig, Gd G dep (dep 91), (sig 91).keep, (sig 91).ord⟩
noncomputable def c91 : Code := Try.f91.body.getD .skip
def T91o1 : TSt := ⟨[.d (.i .i64), .d (.s), .own 448, .d (.b), .any], [(448, .row 5 1)]⟩
def X91o1e1 : TSt := ⟨[.d (.i .i64), .d (.s), .own 448, .d (.b), .d (.b)], [(448, .row 5 1)]⟩
def L91o1 (m : Nat) (vs : List Vr) (K : Cont (List DV × List (List D))) : Rs := l91o1 (vS vs 1) (vB vs 2) (fun n16 b17 l18 => K (.exit 0) (fillS X91o1e1 [.i (n16), .s (vS vs 1), .b (vB vs 2), .b (b17), .l (l18)])) m (vI vs 0) (vV vs 3) (vL vs 4)
def ST91 : List (Nat × (St → Cont (List DV × List (List D)) → Rs)) := [(1, sumT T91o1 (L91o1 KK))]
noncomputable def b91o1 : Code := match nodeAt c91 1 with | some (.loop a) => a | _ => .skip
theorem q91o1 : ∀ m vs K, L91o1 (m + 1) vs K = denK C91 (lkS ST91) b91o1 2 (fillS T91o1 vs) (loopK T91o1 (L91o1 m) K) := fun m vs K => by kernel_rfl
theorem o91o1 : SumOk C91 KK (sumT T91o1 (L91o1 KK)) (.loop b91o1) := loop_ok T91o1 L91o1 (sums_of (t := ST91) ⟨fun _ _ h => absurd h (by decide), trivial⟩) (fun _ _ => rfl) q91o1
theorem r91 : ∀ vs, v91 vs = bodyK C91 (lkS ST91) Try.f91 (sig 91) c91 (fillAs A91 0 vs) := fun vs => by kernel_rfl
theorem ok91 : ∀ xs q, opt (g91 xs) = some q → evalBody Try.prog sig (Gd G dep (dep 91)) KK 91 xs = some q := fun xs q h => body_ok Try.func91 (c := c91) rfl A91 v91 (sums_of (C := C91) (t := ST91) ⟨sum_in (c' := .loop b91o1) (by kernel_rfl) o91o1, trivial⟩) r91 (opt_gOf h)
noncomputable def C83 : Ctx := ⟨Try.prog, sig, Gd G dep (dep 83), (sig 83).keep, (sig 83).ord⟩
noncomputable def c83 : Code := Try.f83.body.getD .skip
def ST83 : List (Nat × (St → Cont (List DV × List (List D)) → Rs)) := []
theorem r83 : ∀ vs, v83 vs = bodyK C83 (lkS ST83) Try.f83 (sig 83) c83 (fillAs A83 0 vs) := fun vs => by kernel_rfl
theorem ok83 : ∀ xs q, opt (g83 xs) = some q → evalBody Try.prog sig (Gd G dep (dep 83)) KK 83 xs = some q := fun xs q h => body_ok Try.func83 (c := c83) rfl A83 v83 (sums_of (C := C83) (t := ST83) trivial) r83 (opt_gOf h)
noncomputable def C112 : Ctx := ⟨Try.prog, sig, Gd G dep (dep 112), (sig 112).keep, (sig 112).ord⟩
noncomputable def c112 : Code := Try.f112.body.getD .skip
def ST112 : List (Nat × (St → Cont (List DV × List (List D)) → Rs)) := []
theorem r112 : ∀ vs, v112 vs = bodyK C112 (lkS ST112) Try.f112 (sig 112) c112 (fillAs A112 0 vs) := fun vs => by kernel_rfl
theorem ok112 : ∀ xs q, opt (g112 xs) = some q → evalBody Try.prog sig (Gd G dep (dep 112)) KK 112 xs = some q := fun xs q h => body_ok Try.func112 (c := c112) rfl A112 v112 (sums_of (C := C112) (t := ST112) trivial) r112 (opt_gOf h)
noncomputable def C82 : Ctx := ⟨Try.prog, sig, Gd G dep (dep 82), (sig 82).keep, (sig 82).ord⟩
noncomputable def c82 : Code := Try.f82.body.getD .skip
def T82o0 : TSt := ⟨[.d (.l), .d (.s), .d (.s), .any, .d (.l), .d (.i .i64), .d (.i .i64), .any], []⟩
def X82o0e1 : TSt := ⟨[.d (.l), .d (.s), .d (.s), .any, .d (.l), .d (.i .i64), .d (.i .i64), .d (.b)], []⟩
def L82o0 (m : Nat) (vs : List Vr) (K : Cont (List DV × List (List D))) : Rs := l82o0 (vL vs 0) (vS vs 1) (vL vs 4) (vI vs 5) (fun s24 v25 n26 b27 => K (.exit 0) (fillS X82o0e1 [.l (vL vs 0), .s (vS vs 1), .s (s24), .v (v25), .l (vL vs 4), .i (vI vs 5), .i (n26), .b (b27)])) m (vS vs 2) (vV vs 3) (vI vs 6) (vV vs 7)
def ST82 : List (Nat × (St → Cont (List DV × List (List D)) → Rs)) := [(0, sumT T82o0 (L82o0 KK))]
noncomputable def b82o0 : Code := match nodeAt c82 0 with | some (.loop a) => a | _ => .skip
theorem q82o0 : ∀ m vs K, L82o0 (m + 1) vs K = denK C82 (lkS ST82) b82o0 1 (fillS T82o0 vs) (loopK T82o0 (L82o0 m) K) := fun m vs K => by kernel_rfl
theorem o82o0 : SumOk C82 KK (sumT T82o0 (L82o0 KK)) (.loop b82o0) := loop_ok T82o0 L82o0 (sums_of (t := ST82) ⟨fun _ _ h => absurd h (by decide), trivial⟩) (fun _ _ => rfl) q82o0
theorem r82 : ∀ vs, v82 vs = bodyK C82 (lkS ST82) Try.f82 (sig 82) c82 (fillAs A82 0 vs) := fun vs => by kernel_rfl
theorem ok82 : ∀ xs q, opt (g82 xs) = some q → evalBody Try.prog sig (Gd G dep (dep 82)) KK 82 xs = some q := fun xs q h => body_ok Try.func82 (c := c82) rfl A82 v82 (sums_of (C := C82) (t := ST82) ⟨sum_in (c' := .loop b82o0) (by kernel_rfl) o82o0, trivial⟩) r82 (opt_gOf h)
noncomputable def C70 : Ctx := ⟨Try.prog, sig, Gd G dep (dep 70), (sig 70).keep, (sig 70).ord⟩
noncomputable def c70 : Code := Try.f70.body.getD .skip
def ST70 : List (Nat × (St → Cont (List DV × List (List D)) → Rs)) := []
theorem r70 : ∀ vs, v70 vs = bodyK C70 (lkS ST70) Try.f70 (sig 70) c70 (fillAs A70 0 vs) := fun vs => by kernel_rfl
theorem ok70 : ∀ xs q, opt (g70 xs) = some q → evalBody Try.prog sig (Gd G dep (dep 70)) KK 70 xs = some q := fun xs q h => body_ok Try.func70 (c := c70) rfl A70 v70 (sums_of (C := C70) (t := ST70) trivial) r70 (opt_gOf h)
noncomputable def C34 : Ctx := ⟨Try.prog, sig, Gd G dep (dep 34), (sig 34).keep, (sig 34).ord⟩
noncomputable def c34 : Code := Try.f34.body.getD .skip
def ST34 : List (Nat × (St → Cont (List DV × List (List D)) → Rs)) := []
theorem r34 : ∀ vs, v34 vs = bodyK C34 (lkS ST34) Try.f34 (sig 34) c34 (fillAs A34 0 vs) := fun vs => by kernel_rfl
theorem ok34 : ∀ xs q, opt (g34 xs) = some q → evalBody Try.prog sig (Gd G dep (dep 34)) KK 34 xs = some q := fun xs q h => body_ok Try.func34 (c := c34) rfl A34 v34 (sums_of (C := C34) (t := ST34) trivial) r34 (opt_gOf h)
noncomputable def C35 : Ctx := ⟨Try.prog, sig, Gd G dep (dep 35), (sig 35).keep, (sig 35).ord⟩
noncomputable def c35 : Code := Try.f35.body.getD .skip
def ST35 : List (Nat × (St → Cont (List DV × List (List D)) → Rs)) := []
theorem r35 : ∀ vs, v35 vs = bodyK C35 (lkS ST35) Try.f35 (sig 35) c35 (fillAs A35 0 vs) := fun vs => by kernel_rfl
theorem ok35 : ∀ xs q, opt (g35 xs) = some q → evalBody Try.prog sig (Gd G dep (dep 35)) KK 35 xs = some q := fun xs q h => body_ok Try.func35 (c := c35) rfl A35 v35 (sums_of (C := C35) (t := ST35) trivial) r35 (opt_gOf h)
noncomputable def C7 : Ctx := ⟨Try.prog, sig, Gd G dep (dep 7), (sig 7).keep, (sig 7).ord⟩
noncomputable def c7 : Code := Try.f7.body.getD .skip
def ST7 : List (Nat × (St → Cont (List DV × List (List D)) → Rs)) := []
theorem r7 : ∀ vs, v7 vs = bodyK C7 (lkS ST7) Try.f7 (sig 7) c7 (fillAs A7 0 vs) := fun vs => by kernel_rfl
theorem ok7 : ∀ xs q, opt (g7 xs) = some q → evalBody Try.prog sig (Gd G dep (dep 7)) KK 7 xs = some q := fun xs q h => body_ok Try.func7 (c := c7) rfl A7 v7 (sums_of (C := C7) (t := ST7) trivial) r7 (opt_gOf h)
theorem fn_ok : ∀ f ∈ [23, 19, 25, 21, 64, 60, 61, 20, 89, 110, 111, 69, 33, 62, 63, 22, 91, 83, 112, 82, 70, 34, 35, 7], FnOk Try.prog sig f := fun f h => fnOk_of (List.all_eq_true.1 (show [23, 19, 25, 21, 64, 60, 61, 20, 89, 110, 111, 69, 33, 62, 63, 22, 91, 83, 112, 82, 70, 34, 35, 7].all (fnOkB Try.prog sig) = true by kernel_rfl) f h)
theorem all_ok : AllG (fun f xs q => FnOk Try.prog sig f ∧ evalBody Try.prog sig (Gd G dep (dep f)) KK f xs = some q) gT :=
  ⟨fun xs q h => ⟨fn_ok 23 (by simp), ok23 xs q h⟩, fun xs q h => ⟨fn_ok 19 (by simp), ok19 xs q h⟩, fun xs q h => ⟨fn_ok 25 (by simp), ok25 xs q h⟩, fun xs q h => ⟨fn_ok 21 (by simp), ok21 xs q h⟩, fun xs q h => ⟨fn_ok 64 (by simp), ok64 xs q h⟩, fun xs q h => ⟨fn_ok 60 (by simp), ok60 xs q h⟩, fun xs q h => ⟨fn_ok 61 (by simp), ok61 xs q h⟩, fun xs q h => ⟨fn_ok 20 (by simp), ok20 xs q h⟩, fun xs q h => ⟨fn_ok 89 (by simp), ok89 xs q h⟩, fun xs q h => ⟨fn_ok 110 (by simp), ok110 xs q h⟩, fun xs q h => ⟨fn_ok 111 (by simp), ok111 xs q h⟩, fun xs q h => ⟨fn_ok 69 (by simp), ok69 xs q h⟩, fun xs q h => ⟨fn_ok 33 (by simp), ok33 xs q h⟩, fun xs q h => ⟨fn_ok 62 (by simp), ok62 xs q h⟩, fun xs q h => ⟨fn_ok 63 (by simp), ok63 xs q h⟩, fun xs q h => ⟨fn_ok 22 (by simp), ok22 xs q h⟩, fun xs q h => ⟨fn_ok 91 (by simp), ok91 xs q h⟩, fun xs q h => ⟨fn_ok 83 (by simp), ok83 xs q h⟩, fun xs q h => ⟨fn_ok 112 (by simp), ok112 xs q h⟩, fun xs q h => ⟨fn_ok 82 (by simp), ok82 xs q h⟩, fun xs q h => ⟨fn_ok 70 (by simp), ok70 xs q h⟩, fun xs q h => ⟨fn_ok 34 (by simp), ok34 xs q h⟩, fun xs q h => ⟨fn_ok 35 (by simp), ok35 xs q h⟩, fun xs q h => ⟨fn_ok 7 (by simp), ok7 xs q h⟩, trivial⟩
theorem G_ok (f : Nat) : SpecOk Try.prog (sig f) (fun xs => opt (G f xs)) f := G_spec (by kernel_rfl) (allG_of all_ok) f
end
end Go.Den.L7
