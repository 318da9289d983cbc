/- The functions' table, and that each is what its twin says. Printed by tw.py. -/
import Derived.Test.YtkokejemgekfaaaL14Tw
import Derived.Test.YtkokejemgekfaaaProg
import Derived.KernelRfl
set_option linter.unusedVariables false
namespace Go.Den.L14
open Go Go.Proofs
noncomputable section
set_option maxRecDepth 100000
def U {α : Type} (a : α) : α := Classical.choose (⟨a, rfl⟩ : ∃ f, f = a)
theorem U_eq {α : Type} (a : α) : U a = a := Classical.choose_spec (⟨a, rfl⟩ : ∃ f, f = a)
abbrev dI : TV := .d (.i .i64)
abbrev dB : TV := .d .b
abbrev dS : TV := .d .s
abbrev dL : TV := .d .l
def bx0 : TB := .box [.bx 0 0 (.l), dI, dI]
def bx1 : TB := .box [dI, dL]
def ag0 : TV := .agg [dI, dL]
abbrev KT := Cont (List DV × List (List D))
def dr (a n : Nat) : List (Nat × Nat × List Nat) := (List.range n).map fun i => (a + i, 0, [])
abbrev LT := List (Nat × (St → KT → Rs))
def Qp (L : Nat → List Vr → KT → Rs) (C : Ctx) (S : LT) (b : Code) (n : Nat) (T : TSt) : Prop := ∀ m w K, L (m + 1) w K = denK C (lkS S) b n (fillS T w) (loopK T (L m) K)
abbrev jB (w : List Vr) (n : Nat) : Vr := .b (vB w n)
abbrev jI (w : List Vr) (n : Nat) : Vr := .i (vI w n)
abbrev jS (w : List Vr) (n : Nat) : Vr := .s (vS w n)
abbrev jL (w : List Vr) (n : Nat) : Vr := .l (vL w n)
abbrev jN (w : List Vr) (n : Nat) : Vr := .n (vN w n)
abbrev jV (w : List Vr) (n : Nat) : Vr := .v (vV w n)
def OkS (sig : Nat → Sig) (g : Nat → List DV → Bool × List DV × List (List D)) (f : Nat) (th : List DV → Bool × List DV × List (List D)) : Prop := ∀ xs q, opt (th xs) = some q → evalBody Try.prog sig g KK f xs = some q
def tu58 := U t58
theorem ue58 : tu58 = t58 := U_eq _
theorem te58 : t58 = t58 := rfl
def v58 (f : Y58) (w : List Vr) : Rs := f (vL w 0)
def th58 := fun xs => gOf zr58 zo58 (argsT A58 (v58 tu58) xs)
def tu102 := U t102
theorem ue102 : tu102 = t102 := U_eq _
theorem te102 : t102 = t102 := rfl
def v102 (f : Y102) (w : List Vr) : Rs := f (vL w 0)
def th102 := fun xs => gOf zr102 zo102 (argsT A102 (v102 tu102) xs)
def tu124 := U t124
theorem ue124 : tu124 = t124 := U_eq _
theorem te124 : t124 = t124 := rfl
def v124 (f : Y124) (w : List Vr) : Rs := f (vL w 0) (vI w 1) (vI w 2)
def th124 := fun xs => gOf zr124 zo124 (argsT A124 (v124 tu124) xs)
def tu105 := U t105
theorem ue105 : tu105 = t105 := U_eq _
theorem te105 : ta105 tu124 = t105 := by rw [ue124]; rfl
def v105 (f : Y105) (w : List Vr) : Rs := f (vL w 0) (vI w 1) (vI w 2) (vI w 3)
def th105 := fun xs => gOf zr105 zo105 (argsT A105 (v105 tu105) xs)
def tu108 := U t108
theorem ue108 : tu108 = t108 := U_eq _
theorem te108 : ta108 tu105 = t108 := by rw [ue105]; rfl
def v108 (f : Y108) (w : List Vr) : Rs := f (vL w 0) (vI w 1) (vI w 2) (vI w 3)
def th108 := fun xs => gOf zr108 zo108 (argsT A108 (v108 tu108) xs)
def tu122 := U t122
theorem ue122 : tu122 = t122 := U_eq _
theorem te122 : ta122 tu105 = t122 := by rw [ue105]; rfl
def v122 (f : Y122) (w : List Vr) : Rs := f (vL w 0) (vI w 1) (vI w 2) (vL w 3)
def th122 := fun xs => gOf zr122 zo122 (argsT A122 (v122 tu122) xs)
def tu103 := U t103
theorem ue103 : tu103 = t103 := U_eq _
theorem te103 : ta103 tu105 tu108 tu122 = t103 := by rw [ue105, ue108, ue122]; rfl
def v103 (f : Y103) (w : List Vr) : Rs := f (vL w 0) (vI w 1) (vI w 2)
def th103 := fun xs => gOf zr103 zo103 (argsT A103 (v103 tu103) xs)
def tu127 := U t127
theorem ue127 : tu127 = t127 := U_eq _
theorem te127 : t127 = t127 := rfl
def v127 (f : Y127) (w : List Vr) : Rs := f
def th127 := fun xs => gOf zr127 zo127 (argsT A127 (v127 tu127) xs)
def tu129 := U t129
theorem ue129 : tu129 = t129 := U_eq _
theorem te129 : ta129 tu105 = t129 := by rw [ue105]; rfl
def v129 (f : Y129) (w : List Vr) : Rs := f (vL w 0) (vI w 1) (vI w 2) (vL w 3)
def th129 := fun xs => gOf zr129 zo129 (argsT A129 (v129 tu129) xs)
def tu132 := U t132
theorem ue132 : tu132 = t132 := U_eq _
theorem te132 : ta132 tu129 = t132 := by rw [ue129]; rfl
def v132 (f : Y132) (w : List Vr) : Rs := f (vL w 0) (vI w 1) (vI w 2)
def th132 := fun xs => gOf zr132 zo132 (argsT A132 (v132 tu132) xs)
def tu130 := U t130
theorem ue130 : tu130 = t130 := U_eq _
theorem te130 : ta130 tu105 tu108 tu129 tu132 = t130 := by rw [ue105, ue108, ue129, ue132]; rfl
def v130 (f : Y130) (w : List Vr) : Rs := f (vL w 0) (vI w 1) (vI w 2)
def th130 := fun xs => gOf zr130 zo130 (argsT A130 (v130 tu130) xs)
def tu131 := U t131
theorem ue131 : tu131 = t131 := U_eq _
theorem te131 : t131 = t131 := rfl
def v131 (f : Y131) (w : List Vr) : Rs := f (vI w 0) (vL w 1) (vI w 2)
def th131 := fun xs => gOf zr131 zo131 (argsT A131 (v131 tu131) xs)
def tu128 := U t128
theorem ue128 : tu128 = t128 := U_eq _
theorem te128 : ta128 tu105 tu108 tu130 tu131 tu132 = t128 := by rw [ue105, ue108, ue130, ue131, ue132]; rfl
def v128 (f : Y128) (w : List Vr) : Rs := f (vL w 0) (vI w 1) (vI w 2) (vI w 3) (vL w 4)
def th128 := fun xs => gOf zr128 zo128 (argsT A128 (v128 tu128) xs)
def tu109 := U t109
theorem ue109 : tu109 = t109 := U_eq _
theorem te109 : ta109 tu105 tu124 = t109 := by rw [ue105, ue124]; rfl
def v109 (f : Y109) (w : List Vr) : Rs := f (vL w 0) (vI w 1) (vI w 2) (vI w 3)
def th109 := fun xs => gOf zr109 zo109 (argsT A109 (v109 tu109) xs)
def tu126 := U t126
theorem ue126 : tu126 = t126 := U_eq _
theorem te126 : ta126 tu105 tu108 tu109 tu122 tu128 tu129 tu130 = t126 := by rw [ue105, ue108, ue109, ue122, ue128, ue129, ue130]; rfl
def v126 (f : Y126) (w : List Vr) : Rs := f (vL w 0) (vI w 1) (vI w 2) (vI w 3) (vL w 4)
def th126 := fun xs => gOf zr126 zo126 (argsT A126 (v126 tu126) xs)
def tu123 := U t123
theorem ue123 : tu123 = t123 := U_eq _
theorem te123 : ta123 tu126 tu127 = t123 := by rw [ue126, ue127]; rfl
def v123 (f : Y123) (w : List Vr) : Rs := f (vL w 0) (vI w 1) (vI w 2)
def th123 := fun xs => gOf zr123 zo123 (argsT A123 (v123 tu123) xs)
def tu64 := U t64
theorem ue64 : tu64 = t64 := U_eq _
theorem te64 : t64 = t64 := rfl
def v64 (f : Y64) (w : List Vr) : Rs := f (vI w 0)
def th64 := fun xs => gOf zr64 zo64 (argsT A64 (v64 tu64) xs)
def tu60 := U t60
theorem ue60 : tu60 = t60 := U_eq _
theorem te60 : t60 = t60 := rfl
def v60 (f : Y60) (w : List Vr) : Rs := f (vI w 0) (vI w 1) (vI w 2)
def th60 := fun xs => gOf zr60 zo60 (argsT A60 (v60 tu60) xs)
def tu61 := U t61
theorem ue61 : tu61 = t61 := U_eq _
theorem te61 : ta61 tu60 = t61 := by rw [ue60]; rfl
def v61 (f : Y61) (w : List Vr) : Rs := f (vI w 0) (vS w 1) (vS w 2) (vI w 3) (vI w 4) (vS w 5)
def th61 := fun xs => gOf zr61 zo61 (argsT A61 (v61 tu61) xs)
def tu20 := U t20
theorem ue20 : tu20 = t20 := U_eq _
theorem te20 : ta20 tu60 tu61 tu64 = t20 := by rw [ue60, ue61, ue64]; rfl
def v20 (f : Y20) (w : List Vr) : Rs := f (vI w 0) (vI w 1) (vI w 2) (vB w 3) (vI w 4) (vS w 5) (vS w 6) (vI w 7) (vI w 8) (vS w 9) (vI w 10)
def th20 := fun xs => gOf zr20 zo20 (argsT A20 (v20 tu20) xs)
def tu24 := U t24
theorem ue24 : tu24 = t24 := U_eq _
theorem te24 : ta24 tu20 tu60 tu61 = t24 := by rw [ue20, ue60, ue61]; rfl
def v24 (f : Y24) (w : List Vr) : Rs := f (vI w 0) (vI w 1) (vI w 2) (vB w 3) (vI w 4) (vS w 5) (vS w 6) (vI w 7) (vI w 8) (vS w 9) (vI w 10) (vI w 11) (vS w 12) (vS w 13) (vI w 14) (vI w 15) (vS w 16) (vI w 17)
def th24 := fun xs => gOf zr24 zo24 (argsT A24 (v24 tu24) xs)
def tu104 := U t104
theorem ue104 : tu104 = t104 := U_eq _
theorem te104 : ta104 tu24 tu105 tu108 tu122 tu123 = t104 := by rw [ue24, ue105, ue108, ue122, ue123]; rfl
def v104 (f : Y104) (w : List Vr) : Rs := f (vL w 0) (vI w 1) (vI w 2)
def th104 := fun xs => gOf zr104 zo104 (argsT A104 (v104 tu104) xs)
def tu89 := U t89
theorem ue89 : tu89 = t89 := U_eq _
theorem te89 : ta89 tu60 = t89 := by rw [ue60]; rfl
def v89 (f : Y89) (w : List Vr) : Rs := f (vI w 0)
def th89 := fun xs => gOf zr89 zo89 (argsT A89 (v89 tu89) xs)
def tu107 := U t107
theorem ue107 : tu107 = t107 := U_eq _
theorem te107 : ta107 tu105 tu108 tu109 tu122 = t107 := by rw [ue105, ue108, ue109, ue122]; rfl
def v107 (f : Y107) (w : List Vr) : Rs := f (vL w 0) (vI w 1) (vI w 2)
def th107 := fun xs => gOf zr107 zo107 (argsT A107 (v107 tu107) xs)
def tu125 := U t125
theorem ue125 : tu125 = t125 := U_eq _
theorem te125 : ta125 tu60 = t125 := by rw [ue60]; rfl
def v125 (f : Y125) (w : List Vr) : Rs := f (vI w 0) (vS w 1)
def th125 := fun xs => gOf zr125 zo125 (argsT A125 (v125 tu125) xs)
def tu106 := U t106
theorem ue106 : tu106 = t106 := U_eq _
theorem te106 : ta106 tu89 tu125 = t106 := by rw [ue89, ue125]; rfl
def v106 (f : Y106) (w : List Vr) : Rs := f (vI w 0) (vS w 1)
def th106 := fun xs => gOf zr106 zo106 (argsT A106 (v106 tu106) xs)
def tu59 := U t59
theorem ue59 : tu59 = t59 := U_eq _
theorem te59 : ta59 tu89 tu102 tu103 tu104 tu105 tu106 tu107 tu108 tu109 = t59 := by rw [ue89, ue102, ue103, ue104, ue105, ue106, ue107, ue108, ue109]; rfl
def v59 (f : Y59) (w : List Vr) : Rs := f (vL w 0)
def th59 := fun xs => gOf zr59 zo59 (argsT A59 (v59 tu59) xs)
def tu62 := U t62
theorem ue62 : tu62 = t62 := U_eq _
theorem te62 : t62 = t62 := rfl
def v62 (f : Y62) (w : List Vr) : Rs := f (vI w 0) (vI w 1) (vI w 2)
def th62 := fun xs => gOf zr62 zo62 (argsT A62 (v62 tu62) xs)
def tu63 := U t63
theorem ue63 : tu63 = t63 := U_eq _
theorem te63 : ta63 tu62 = t63 := by rw [ue62]; rfl
def v63 (f : Y63) (w : List Vr) : Rs := f (vI w 0) (vS w 1) (vS w 2) (vI w 3) (vI w 4) (vS w 5)
def th63 := fun xs => gOf zr63 zo63 (argsT A63 (v63 tu63) xs)
def tu22 := U t22
theorem ue22 : tu22 = t22 := U_eq _
theorem te22 : ta22 tu62 tu63 = t22 := by rw [ue62, ue63]; rfl
def v22 (f : Y22) (w : List Vr) : Rs := f (vI w 0) (vI w 1) (vI w 2) (vB w 3) (vI w 4) (vS w 5) (vS w 6) (vI w 7) (vI w 8) (vS w 9) (vI w 10)
def th22 := fun xs => gOf zr22 zo22 (argsT A22 (v22 tu22) xs)
def tu86 := U t86
theorem ue86 : tu86 = t86 := U_eq _
theorem te86 : t86 = t86 := rfl
def v86 (f : Y86) (w : List Vr) : Rs := f (vS w 0)
def th86 := fun xs => gOf zr86 zo86 (argsT A86 (v86 tu86) xs)
def tu118 := U t118
theorem ue118 : tu118 = t118 := U_eq _
theorem te118 : ta118 tu62 = t118 := by rw [ue62]; rfl
def v118 (f : Y118) (w : List Vr) : Rs := f (vI w 0) (vS w 1)
def th118 := fun xs => gOf zr118 zo118 (argsT A118 (v118 tu118) xs)
def tu87 := U t87
theorem ue87 : tu87 = t87 := U_eq _
theorem te87 : ta87 tu86 tu118 = t87 := by rw [ue86, ue118]; rfl
def v87 (f : Y87) (w : List Vr) : Rs := f (vS w 0)
def th87 := fun xs => gOf zr87 zo87 (argsT A87 (v87 tu87) xs)
def tu46 := U t46
theorem ue46 : tu46 = t46 := U_eq _
theorem te46 : ta46 tu22 tu62 tu86 tu87 = t46 := by rw [ue22, ue62, ue86, ue87]; rfl
def v46 (f : Y46) (w : List Vr) : Rs := f (vI w 0) (vI w 1) (vI w 2) (vB w 3) (vI w 4) (vS w 5) (vS w 6) (vI w 7) (vI w 8) (vS w 9) (vI w 10) (vI w 11) (vI w 12) (vI w 13) (vB w 14) (vI w 15) (vS w 16) (vI w 17)
def th46 := fun xs => gOf zr46 zo46 (argsT A46 (v46 tu46) xs)
def tu84 := U t84
theorem ue84 : tu84 = t84 := U_eq _
theorem te84 : ta84 tu89 = t84 := by rw [ue89]; rfl
def v84 (f : Y84) (w : List Vr) : Rs := f (vS w 0)
def th84 := fun xs => gOf zr84 zo84 (argsT A84 (v84 tu84) xs)
def tu92 := U t92
theorem ue92 : tu92 = t92 := U_eq _
theorem te92 : ta92 tu84 = t92 := by rw [ue84]; rfl
def v92 (f : Y92) (w : List Vr) : Rs := f (vS w 0) (vI w 1) (vI w 2)
def th92 := fun xs => gOf zr92 zo92 (argsT A92 (v92 tu92) xs)
def tu85 := U t85
theorem ue85 : tu85 = t85 := U_eq _
theorem te85 : ta85 tu92 tu106 = t85 := by rw [ue92, ue106]; rfl
def v85 (f : Y85) (w : List Vr) : Rs := f (vS w 0)
def th85 := fun xs => gOf zr85 zo85 (argsT A85 (v85 tu85) xs)
def tu44 := U t44
theorem ue44 : tu44 = t44 := U_eq _
theorem te44 : ta44 tu20 tu60 tu84 tu85 = t44 := by rw [ue20, ue60, ue84, ue85]; rfl
def v44 (f : Y44) (w : List Vr) : Rs := f (vI w 0) (vI w 1) (vI w 2) (vB w 3) (vI w 4) (vS w 5) (vS w 6) (vI w 7) (vI w 8) (vS w 9) (vI w 10) (vI w 11) (vI w 12) (vI w 13) (vB w 14) (vI w 15) (vS w 16) (vI w 17)
def th44 := fun xs => gOf zr44 zo44 (argsT A44 (v44 tu44) xs)
def tu26 := U t26
theorem ue26 : tu26 = t26 := U_eq _
theorem te26 : ta26 tu22 tu62 tu63 = t26 := by rw [ue22, ue62, ue63]; rfl
def v26 (f : Y26) (w : List Vr) : Rs := f (vI w 0) (vI w 1) (vI w 2) (vB w 3) (vI w 4) (vS w 5) (vS w 6) (vI w 7) (vI w 8) (vS w 9) (vI w 10) (vI w 11) (vS w 12) (vS w 13) (vI w 14) (vI w 15) (vS w 16) (vI w 17)
def th26 := fun xs => gOf zr26 zo26 (argsT A26 (v26 tu26) xs)
def tu14 := U t14
theorem ue14 : tu14 = t14 := U_eq _
theorem te14 : ta14 tu20 tu26 tu44 tu46 tu58 tu59 = t14 := by rw [ue20, ue26, ue44, ue46, ue58, ue59]; rfl
def v14 (f : Y14) (w : List Vr) : Rs := f (vL w 0)
def th14 := fun xs => gOf zr14 zo14 (argsT A14 (v14 tu14) xs)
def sg58 : Sig := ⟨[.bor], .sc [.one (.b false)], [0, 2], []⟩
def sg102 : Sig := ⟨[.bor], .nptr [none, none, none], [0, 2, 3, 4, 15], []⟩
def sg124 : Sig := ⟨[.ptr [none, none, none]], .sc [.one (.i .i64 0)], [0, 2, 3, 34], [(2, dr 0 13), (3, dr 0 10), (4, dr 0 14 ++ [(14, 1, [])])]⟩
def sg105 : Sig := ⟨[.ptr [none, none, none], .bor], .sc [.one (.i .i64 0)], [0, 1, 4, 5, 6, 7, 8, 10, 12], []⟩
def sg108 : Sig := ⟨[.ptr [none, none, none], .bor], .sc [.one (.b false)], [0, 1, 4], []⟩
def sg122 : Sig := ⟨[.ptr [none, none, none], .bor], .sc [.one (.i .i64 0)], [0, 1, 4], []⟩
def sg103 : Sig := ⟨[.ptr [none, none, none]], .sc [.one (.i .i64 0)], [0, 2, 4], []⟩
def sg127 : Sig := ⟨[], .fresh [[none, some (165, 9)]], [0], []⟩
def sg129 : Sig := ⟨[.ptr [none, none, none], .bor], .sc [.one (.s ⟨#[]⟩)], [0, 1, 4], []⟩
def sg132 : Sig := ⟨[.ptr [none, none, none]], .sc [.one (.s ⟨#[]⟩)], [0, 2], []⟩
def sg130 : Sig := ⟨[.ptr [none, none, none]], .sc [.one (.s ⟨#[]⟩)], [0, 2, 3, 4, 8, 17, 18, 22, 26, 30, 42, 46], [(1000014, [(2176, 0, [])])]⟩
def sg131 : Sig := ⟨[.bor, .bor], .sc [.one (.i .i64 0)], [0, 1, 2, 4, 5, 10, 20], []⟩
def sg128 : Sig := ⟨[.ptr [none, none, none], .bor], .sc [.one (.s ⟨#[]⟩)], [0, 1, 3, 4, 5, 6, 7, 8, 9, 11, 17, 34], [(11, [(17, 2, [])] ++ dr 0 14 ++ [(14, 1, [0, 1, 2, 3, 4, 5]), (15, 0, []), (16, 0, []), (18, 1, [])])]⟩
def sg109 : Sig := ⟨[.ptr [none, none, none], .bor], .sc [.one (.s ⟨#[]⟩)], [0, 1, 4, 5, 6, 7, 8, 17, 23, 27], []⟩
def sg126 : Sig := ⟨[.ptr [none, none, none], .bor], .sc [.agg [.i .i64 0, .s ⟨#[]⟩, .s ⟨#[]⟩, .i .i64 0, .i .i64 0, .s ⟨#[]⟩]], [0, 1, 3, 4, 5, 14, 15, 23, 31, 39, 44, 49, 56, 62, 67, 77, 82, 93, 95, 99, 105, 111, 117, 123], [(1, [(7, 2, []), (0, 0, []), (3, 0, []), (4, 0, []), (1, 1, [0, 3, 4]), (2, 1, [3, 4]), (5, 1, []), (6, 0, []), (8, 1, [])]), (1000029, [(448, 0, [])]), (1000031, [(448, 0, []), (5440, 0, []), (5696, 0, [])]), (1000034, [(448, 0, []), (1280, 0, [])]), (1000044, [(448, 0, []), (1280, 0, []), (8064, 0, [])])]⟩
def sg123 : Sig := ⟨[.ptr [none, none, none]], .sc [.agg [.i .i64 0, .s ⟨#[]⟩, .s ⟨#[]⟩, .i .i64 0, .i .i64 0, .s ⟨#[]⟩]], [0, 2], []⟩
def sg64 : Sig := ⟨[.bor], .sc [.one (.b false)], [0, 2], []⟩
def sg60 : Sig := ⟨[.bor, .bor, .bor], .sc [.one (.b false)], [0, 1, 2, 6], []⟩
def sg61 : Sig := ⟨[.bor], .sc [.one (.b false)], [0, 1, 2, 36, 54], []⟩
def sg20 : Sig := ⟨[.bor], .sc [.one (.b false)], [0, 1, 2, 24, 26], []⟩
def sg24 : Sig := ⟨[.bor, .bor, .bor], .sc [.agg [.i .i64 0, .i .i64 0, .i .i64 0, .b false, .i .i64 0, .s ⟨#[]⟩, .s ⟨#[]⟩, .i .i64 0, .i .i64 0, .s ⟨#[]⟩, .i .i64 0], .one (.b false)], [0, 1, 2, 3, 4, 6, 7, 10, 28], []⟩
def sg104 : Sig := ⟨[.ptr [none, none, none]], .sc [.agg [.i .i64 0, .i .i64 0, .i .i64 0, .b false, .i .i64 0, .s ⟨#[]⟩, .s ⟨#[]⟩, .i .i64 0, .i .i64 0, .s ⟨#[]⟩, .i .i64 0]], [0, 2, 3, 4, 5, 16, 26, 29, 31, 36, 42, 48, 54], [(3, [(9, 2, []), (0, 0, []), (1, 0, []), (3, 0, []), (2, 1, [0, 3]), (4, 1, [0])] ++ dr 5 4 ++ [(10, 1, [8]), (11, 0, [])]), (1000008, [(2112, 0, [])]), (1000016, [(3648, 0, [])])]⟩
def sg89 : Sig := ⟨[.bor], .sc [.one (.s ⟨#[]⟩)], [0, 2, 3, 6, 9], []⟩
def sg107 : Sig := ⟨[.ptr [none, none, none]], .sc [.agg [.i .i64 0, .s ⟨#[]⟩]], [0, 2, 3, 4, 5, 13, 21], []⟩
def sg125 : Sig := ⟨[.bor], .sc [.one (.b false)], [0, 1, 2], []⟩
def sg106 : Sig := ⟨[.bor], .sc [.one (.s ⟨#[]⟩)], [0, 1, 2, 5], [(3, dr 0 7)]⟩
def sg59 : Sig := ⟨[.bor], .sc [.agg [.i .i64 0, .i .i64 0, .i .i64 0, .b false, .i .i64 0, .s ⟨#[]⟩, .s ⟨#[]⟩, .i .i64 0, .i .i64 0, .s ⟨#[]⟩, .i .i64 0], .agg [.i .i64 0, .i .i64 0, .i .i64 0, .b false, .i .i64 0, .s ⟨#[]⟩], .one (.i .i64 0)], [0, 2, 3, 4, 5, 6, 7, 8, 33, 35, 39, 42, 48, 54], [(4, [(17, 2, [])] ++ dr 0 5 ++ dr 6 3 ++ [(12, 0, []), (5, 1, [0, 1, 2, 3, 6, 7, 8, 12]), (9, 1, [0, 1, 2, 3, 6, 7, 12]), (10, 0, []), (11, 0, []), (13, 1, [0, 1, 2, 3, 6, 7])] ++ dr 14 3 ++ [(18, 1, [])]), (16, dr 0 3 ++ [(3, 1, [1, 2]), (4, 1, [2]), (5, 0, [])])]⟩
def sg62 : Sig := ⟨[.bor, .bor, .bor], .sc [.one (.b false)], [0, 1, 2, 6], []⟩
def sg63 : Sig := ⟨[.bor], .sc [.one (.b false)], [0, 1, 2, 3, 4, 41], []⟩
def sg22 : Sig := ⟨[.bor], .sc [.one (.b false)], [0, 1, 2, 24, 26], []⟩
def sg86 : Sig := ⟨[.bor], .sc [.one (.i .i64 0), .one (.i .i64 0)], [0, 2, 3, 4, 5, 6, 14, 29, 35], []⟩
def sg118 : Sig := ⟨[.bor], .sc [.one (.b false)], [0, 1, 2], []⟩
def sg87 : Sig := ⟨[.bor], .sc [.agg [.i .i64 0, .s ⟨#[]⟩], .one (.b false)], [0, 2, 3, 4, 5, 6, 23], []⟩
def sg46 : Sig := ⟨[.bor, .bor, .bor], .sc [.agg [.i .i64 0, .i .i64 0, .i .i64 0, .b false, .i .i64 0, .s ⟨#[]⟩, .s ⟨#[]⟩, .i .i64 0, .i .i64 0, .s ⟨#[]⟩, .i .i64 0], .agg [.i .i64 0, .i .i64 0, .i .i64 0, .i .i64 0, .s ⟨#[]⟩, .s ⟨#[]⟩, .i .i64 0, .i .i64 0, .s ⟨#[]⟩, .i .i64 0, .i .i64 0, .s ⟨#[]⟩, .i .i64 0, .i .i64 0], .one (.b false)], [0, 1, 2, 3, 4, 6, 7, 8, 9, 10, 11, 12, 13, 16, 79], [(11, [(0, 0, []), (1, 0, []), (2, 1, [1]), (3, 1, []), (4, 0, [])])]⟩
def sg84 : Sig := ⟨[.bor], .sc [.one (.i .i64 0), .one (.i .i64 0)], [0, 2, 3, 4, 5, 6, 14, 20, 36], [(9, dr 0 6)]⟩
def sg92 : Sig := ⟨[.bor, .bor, .bor], .fresh [[some (3, 1)], [none]], [0, 1, 2, 6, 7, 8, 9, 10, 11, 15, 25, 35], []⟩
def sg85 : Sig := ⟨[.bor], .sc [.agg [.i .i64 0, .s ⟨#[]⟩], .one (.b false)], [0, 2, 3, 4, 5, 6, 13, 25], [(4, [(7, 2, [])] ++ dr 0 7 ++ [(8, 1, [])])]⟩
def sg44 : Sig := ⟨[.bor, .bor, .bor], .sc [.agg [.i .i64 0, .i .i64 0, .i .i64 0, .b false, .i .i64 0, .s ⟨#[]⟩, .s ⟨#[]⟩, .i .i64 0, .i .i64 0, .s ⟨#[]⟩, .i .i64 0], .agg [.i .i64 0, .i .i64 0, .i .i64 0, .i .i64 0, .s ⟨#[]⟩, .s ⟨#[]⟩, .i .i64 0, .i .i64 0, .s ⟨#[]⟩, .i .i64 0, .i .i64 0, .s ⟨#[]⟩, .i .i64 0, .i .i64 0], .one (.b false)], [0, 1, 2, 3, 4, 6, 7, 8, 9, 10, 11, 12, 15, 78], [(7, dr 0 21 ++ [(21, 1, [7, 8, 9, 10, 11, 12, 13, 14, 15, 16, 17, 18, 19, 20]), (22, 1, []), (23, 0, [])])]⟩
def sg26 : Sig := ⟨[.bor, .bor, .bor], .sc [.agg [.i .i64 0, .i .i64 0, .i .i64 0, .b false, .i .i64 0, .s ⟨#[]⟩, .s ⟨#[]⟩, .i .i64 0, .i .i64 0, .s ⟨#[]⟩, .i .i64 0], .one (.b false)], [0, 1, 2, 3, 4, 6, 7, 10, 28], []⟩
def sg14 : Sig := ⟨[.bor], .sc [.one (.b false)], [0, 2, 3, 4, 5, 6, 7, 8, 11, 12, 14, 15, 16, 19, 22, 24, 49, 51], []⟩
def sig : Nat → Sig := lkF ⟨[], .fresh [], [], []⟩ [(58, sg58), (102, sg102), (124, sg124), (105, sg105), (108, sg108), (122, sg122), (103, sg103), (127, sg127), (129, sg129), (132, sg132), (130, sg130), (131, sg131), (128, sg128), (109, sg109), (126, sg126), (123, sg123), (64, sg64), (60, sg60), (61, sg61), (20, sg20), (24, sg24), (104, sg104), (89, sg89), (107, sg107), (125, sg125), (106, sg106), (59, sg59), (62, sg62), (63, sg63), (22, sg22), (86, sg86), (118, sg118), (87, sg87), (46, sg46), (84, sg84), (92, sg92), (85, sg85), (44, sg44), (26, sg26), (14, sg14)]
def dep : Nat → Nat := lkF 0 [(58, 1), (102, 1), (124, 1), (105, 2), (108, 3), (122, 3), (103, 4), (127, 1), (129, 3), (132, 4), (130, 5), (131, 1), (128, 6), (109, 3), (126, 7), (123, 8), (64, 1), (60, 1), (61, 2), (20, 3), (24, 4), (104, 9), (89, 2), (107, 4), (125, 2), (106, 3), (59, 10), (62, 1), (63, 2), (22, 3), (86, 1), (118, 2), (87, 3), (46, 4), (84, 3), (92, 4), (85, 5), (44, 6), (26, 4), (14, 11)]
def gT : List (Nat × (List DV → Bool × List DV × List (List D))) := [(58, th58), (102, th102), (124, th124), (105, th105), (108, th108), (122, th122), (103, th103), (127, th127), (129, th129), (132, th132), (130, th130), (131, th131), (128, th128), (109, th109), (126, th126), (123, th123), (64, th64), (60, th60), (61, th61), (20, th20), (24, th24), (104, th104), (89, th89), (107, th107), (125, th125), (106, th106), (59, th59), (62, th62), (63, th63), (22, th22), (86, th86), (118, th118), (87, th87), (46, th46), (84, th84), (92, th92), (85, th85), (44, th44), (26, th26), (14, th14)]
def G : Nat → List DV → Bool × List DV × List (List D) := lkF (fun _ => (false, [], [])) gT
noncomputable def mkC (f : Nat) : Ctx := ⟨Try.prog, sig, Gd G dep (dep f), (sig f).keep, (sig f).ord⟩
noncomputable def gc (f : Func) : Code := f.body.getD .skip
noncomputable def bd (c : Code) (n : Nat) : Code := match nodeAt c n with | some (.loop a) => a | _ => .skip
def Rp (tw : List Vr → Rs) (C : Ctx) (S : LT) (fn : Func) (sg : Sig) (c : Code) (A : List TA) : Prop := ∀ w, tw w = bodyK C (lkS S) fn sg c (fillAs A 0 w)
theorem okM {Y : Type} {f : Nat} {fn : Func} {S : LT} {A : List TA} {v : Y → List Vr → Rs} {a t u : Y} {c : Code} {zr : List DV} {zo : List (List D)} (r : Rp (v a) (mkC f) S fn (sig f) c A) (hf : Try.prog.funcs[f]? = some fn) (hb : fn.body = some c) (hs : AllS (mkC f) KK c 0 S) (e : a = t) (hu : u = t) : OkS sig (Gd G dep (dep f)) f (fun xs => gOf zr zo (argsT A (v u) xs)) := fun xs q h => body_ok hf hb A (v a) (sums_of hs) r (by rw [e, ← hu]; exact opt_gOf h)
def C58 := mkC 58
def c58 := gc Try.f58
def ST58 : LT := []
theorem r58 : Rp (v58 t58) C58 ST58 Try.f58 (sig 58) c58 A58 := fun w => by kernel_rfl
theorem ok58 : OkS sig (Gd G dep (dep 58)) 58 th58 := okM (v := v58) r58 Try.func58 rfl trivial te58 ue58
def C102 := mkC 102
def c102 := gc Try.f102
def T102o0 : TSt := ⟨[dL, .nilp, dI, dI, .any], []⟩
def X102o0e1 : TSt := ⟨[dL, .nilp, dI, dI, dB], []⟩
def L102o0 (m : Nat) (w : List Vr) (K : KT) : Rs := l102o0 (vL w 0) (fun n13 n14 b15 => K (.exit 0) (fillS X102o0e1 [jL w 0, .i n13, .i n14, .b b15])) m (vI w 1) (vI w 2) (vV w 3)
def ST102 : LT := [(0, sumT T102o0 (L102o0 KK))]
def b102o0 := bd c102 0
theorem q102o0 : Qp L102o0 C102 ST102 b102o0 1 T102o0 := fun m w K => by kernel_rfl
theorem o102o0 : SumOk C102 KK (sumT T102o0 (L102o0 KK)) (.loop b102o0) := loop_ok T102o0 L102o0 (sums_of (t := ST102) ⟨fun _ _ h => absurd h (by decide), trivial⟩) (fun _ _ => rfl) q102o0
theorem r102 : Rp (v102 t102) C102 ST102 Try.f102 (sig 102) c102 A102 := fun w => by kernel_rfl
theorem ok102 : OkS sig (Gd G dep (dep 102)) 102 th102 := okM (v := v102) r102 Try.func102 rfl ⟨sum_in (c' := .loop b102o0) (by kernel_rfl) (o102o0), trivial⟩ te102 ue102
def C124 := mkC 124
def c124 := gc Try.f124
def ST124 : LT := []
theorem r124 : Rp (v124 t124) C124 ST124 Try.f124 (sig 124) c124 A124 := fun w => by kernel_rfl
theorem ok124 : OkS sig (Gd G dep (dep 124)) 124 th124 := okM (v := v124) r124 Try.func124 rfl trivial te124 ue124
def C105 := mkC 105
def c105 := gc Try.f105
def ST105 : LT := []
theorem r105 : Rp (v105 (ta105 tu124)) C105 ST105 Try.f105 (sig 105) c105 A105 := fun w => by kernel_rfl
theorem ok105 : OkS sig (Gd G dep (dep 105)) 105 th105 := okM (v := v105) r105 Try.func105 rfl trivial te105 ue105
def C108 := mkC 108
def c108 := gc Try.f108
def ST108 : LT := []
theorem r108 : Rp (v108 (ta108 tu105)) C108 ST108 Try.f108 (sig 108) c108 A108 := fun w => by kernel_rfl
theorem ok108 : OkS sig (Gd G dep (dep 108)) 108 th108 := okM (v := v108) r108 Try.func108 rfl trivial te108 ue108
def C122 := mkC 122
def c122 := gc Try.f122
def ST122 : LT := []
theorem r122 : Rp (v122 (ta122 tu105)) C122 ST122 Try.f122 (sig 122) c122 A122 := fun w => by kernel_rfl
theorem ok122 : OkS sig (Gd G dep (dep 122)) 122 th122 := okM (v := v122) r122 Try.func122 rfl trivial te122 ue122
def C103 := mkC 103
def c103 := gc Try.f103
def ST103 : LT := []
theorem r103 : Rp (v103 (ta103 tu105 tu108 tu122)) C103 ST103 Try.f103 (sig 103) c103 A103 := fun w => by kernel_rfl
theorem ok103 : OkS sig (Gd G dep (dep 103)) 103 th103 := okM (v := v103) r103 Try.func103 rfl trivial te103 ue103
def C127 := mkC 127
def c127 := gc Try.f127
def ST127 : LT := []
theorem r127 : Rp (v127 t127) C127 ST127 Try.f127 (sig 127) c127 A127 := fun w => by kernel_rfl
theorem ok127 : OkS sig (Gd G dep (dep 127)) 127 th127 := okM (v := v127) r127 Try.func127 rfl trivial te127 ue127
def C129 := mkC 129
def c129 := gc Try.f129
def ST129 : LT := []
theorem r129 : Rp (v129 (ta129 tu105)) C129 ST129 Try.f129 (sig 129) c129 A129 := fun w => by kernel_rfl
theorem ok129 : OkS sig (Gd G dep (dep 129)) 129 th129 := okM (v := v129) r129 Try.func129 rfl trivial te129 ue129
def C132 := mkC 132
def c132 := gc Try.f132
def ST132 : LT := []
theorem r132 : Rp (v132 (ta132 tu129)) C132 ST132 Try.f132 (sig 132) c132 A132 := fun w => by kernel_rfl
theorem ok132 : OkS sig (Gd G dep (dep 132)) 132 th132 := okM (v := v132) r132 Try.func132 rfl trivial te132 ue132
def C130 := mkC 130
def c130 := gc Try.f130
def T130o0 : TSt := ⟨[.ptr 0 0, dS, dS, dI, .any, .any, .any, .any, .any, .any, .undef, .undef], [(0, bx0)]⟩
def X130o0e1 : TSt := ⟨[.ptr 0 0, dS, dS, dI, dB, .any, .any, .any, .any, .any, .undef, .undef], [(0, bx0)]⟩
def L130o0 (m : Nat) (w : List Vr) (K : KT) : Rs := la130o0 tu105 tu108 tu129 tu132 (vS w 0) (vL w 9) (fun s76 n77 b78 v79 v80 v81 v82 v83 n84 n85 => K (.exit 0) (fillS X130o0e1 [jS w 0, .s s76, .i n77, .b b78, .v v79, .v v80, .v v81, .v v82, .v v83, jL w 9, .i n84, .i n85])) m (vS w 1) (vI w 2) (vV w 3) (vV w 4) (vV w 5) (vV w 6) (vV w 7) (vV w 8) (vI w 10) (vI w 11)
def ST130 : LT := [(0, sumT T130o0 (L130o0 KK))]
def b130o0 := bd c130 0
theorem q130o0 : Qp L130o0 C130 ST130 b130o0 1 T130o0 := fun m w K => by kernel_rfl
theorem o130o0 : SumOk C130 KK (sumT T130o0 (L130o0 KK)) (.loop b130o0) := loop_ok T130o0 L130o0 (sums_of (t := ST130) ⟨fun _ _ h => absurd h (by decide), trivial⟩) (fun _ _ => rfl) q130o0
theorem r130 : Rp (v130 (ta130 tu105 tu108 tu129 tu132)) C130 ST130 Try.f130 (sig 130) c130 A130 := fun w => by kernel_rfl
theorem ok130 : OkS sig (Gd G dep (dep 130)) 130 th130 := okM (v := v130) r130 Try.func130 rfl ⟨sum_in (c' := .loop b130o0) (by kernel_rfl) (o130o0), trivial⟩ te130 ue130
def C131 := mkC 131
def c131 := gc Try.f131
def T131o0 : TSt := ⟨[ag0, dI, .ptr 128 0, dI, dI, .any, .any], [(128, bx1)]⟩
def X131o0e1 : TSt := ⟨[ag0, dI, .ptr 128 0, dI, dI, dB, dB], [(128, bx1)]⟩
def X131o0e2 : TSt := ⟨[ag0, dI, .ptr 128 0, dI, dI, dB, .any], [(128, bx1)]⟩
def L131o0 (m : Nat) (w : List Vr) (K : KT) : Rs := l131o0 (vI w 0) (vL w 1) (vI w 2) (vI w 3) (vI w 7) (vL w 8) (fun n29 b30 b31 => K .ret (fillS X131o0e1 [jI w 0, jL w 1, jI w 2, .i n29, .i n29, .b b30, .b b31, jI w 7, jL w 8])) (fun n32 b33 v34 => K (.exit 0) (fillS X131o0e2 [jI w 0, jL w 1, jI w 2, jI w 3, .i n32, .b b33, .v v34, jI w 7, jL w 8])) m (vI w 4) (vV w 5) (vV w 6)
def ST131 : LT := [(0, sumT T131o0 (L131o0 KK))]
def b131o0 := bd c131 0
theorem q131o0 : Qp L131o0 C131 ST131 b131o0 1 T131o0 := fun m w K => by kernel_rfl
theorem o131o0 : SumOk C131 KK (sumT T131o0 (L131o0 KK)) (.loop b131o0) := loop_ok T131o0 L131o0 (sums_of (t := ST131) ⟨fun _ _ h => absurd h (by decide), trivial⟩) (fun _ _ => rfl) q131o0
theorem r131 : Rp (v131 t131) C131 ST131 Try.f131 (sig 131) c131 A131 := fun w => by kernel_rfl
theorem ok131 : OkS sig (Gd G dep (dep 131)) 131 th131 := okM (v := v131) r131 Try.func131 rfl ⟨sum_in (c' := .loop b131o0) (by kernel_rfl) (o131o0), trivial⟩ te131 ue131
def C128 := mkC 128
def c128 := gc Try.f128
def T128o1 : TSt := ⟨[.ptr 0 0, ag0, .ptr 192 0, dS, dS, dI, dI, .any, .undef, dB, .any, .any], [(0, bx0), (192, bx1)]⟩
def X128o1e1 : TSt := ⟨[.ptr 0 0, ag0, .ptr 192 0, dS, dS, dI, dI, dI, .undef, dB, dB, dB], [(0, bx0), (192, bx1)]⟩
def X128o1e2 : TSt := ⟨[.ptr 0 0, ag0, .ptr 192 0, dS, dS, dI, dI, .any, .undef, dB, dB, .any], [(0, bx0), (192, bx1)]⟩
def L128o1 (m : Nat) (w : List Vr) (K : KT) : Rs := la128o1 tu105 tu108 tu130 tu131 tu132 (vI w 0) (vL w 1) (vS w 2) (vB w 7) (vL w 10) (vI w 13) (vL w 14) (fun s48 s49 n50 n51 n52 b53 b54 n55 n56 => K .ret (fillS X128o1e1 [jI w 0, jL w 1, .s s48, .s s49, .i n50, .i n51, .i n52, jB w 7, .b b53, .b b54, jL w 10, .i n55, .i n56, jI w 13, jL w 14])) (fun s57 n58 n59 v60 b61 v62 n63 n64 => K (.exit 0) (fillS X128o1e2 [jI w 0, jL w 1, jS w 2, .s s57, .i n58, .i n59, .v v60, jB w 7, .b b61, .v v62, jL w 10, .i n63, .i n64, jI w 13, jL w 14])) m (vS w 3) (vI w 4) (vI w 5) (vV w 6) (vV w 8) (vV w 9) (vI w 11) (vI w 12)
def ST128 : LT := [(1, sumT T128o1 (L128o1 KK))]
def b128o1 := bd c128 1
theorem q128o1 : Qp L128o1 C128 ST128 b128o1 2 T128o1 := fun m w K => by kernel_rfl
theorem o128o1 : SumOk C128 KK (sumT T128o1 (L128o1 KK)) (.loop b128o1) := loop_ok T128o1 L128o1 (sums_of (t := ST128) ⟨fun _ _ h => absurd h (by decide), trivial⟩) (fun _ _ => rfl) q128o1
theorem r128 : Rp (v128 (ta128 tu105 tu108 tu130 tu131 tu132)) C128 ST128 Try.f128 (sig 128) c128 A128 := fun w => by kernel_rfl
theorem ok128 : OkS sig (Gd G dep (dep 128)) 128 th128 := okM (v := v128) r128 Try.func128 rfl ⟨sum_in (c' := .loop b128o1) (by kernel_rfl) (o128o1), trivial⟩ te128 ue128
def C109 := mkC 109
def c109 := gc Try.f109
def T109o0 : TSt := ⟨[.ptr 0 0, dI, dS, .own 576, dI, dI, .any, .any, .any, .any], [(0, bx0), (576, .row 5 1)]⟩
def X109o0e1 : TSt := ⟨[.ptr 0 0, dI, dS, .own 576, dI, dI, .any, dB, .any, .any], [(0, bx0), (576, .row 5 1)]⟩
def L109o0 (m : Nat) (w : List Vr) (K : KT) : Rs := la109o0 tu105 tu124 (vI w 0) (vS w 1) (vI w 2) (vL w 8) (fun n41 v42 b43 v44 v45 n46 n47 l48 => K (.exit 0) (fillS X109o0e1 [jI w 0, jS w 1, jI w 2, .i n41, .v v42, .b b43, .v v44, .v v45, jL w 8, .i n46, .i n47, .l l48])) m (vI w 3) (vV w 4) (vV w 5) (vV w 6) (vV w 7) (vI w 9) (vI w 10) (vL w 11)
def ST109 : LT := [(0, sumT T109o0 (L109o0 KK))]
def b109o0 := bd c109 0
theorem q109o0 : Qp L109o0 C109 ST109 b109o0 1 T109o0 := fun m w K => by kernel_rfl
theorem o109o0 : SumOk C109 KK (sumT T109o0 (L109o0 KK)) (.loop b109o0) := loop_ok T109o0 L109o0 (sums_of (t := ST109) ⟨fun _ _ h => absurd h (by decide), trivial⟩) (fun _ _ => rfl) q109o0
theorem r109 : Rp (v109 (ta109 tu105 tu124)) C109 ST109 Try.f109 (sig 109) c109 A109 := fun w => by kernel_rfl
theorem ok109 : OkS sig (Gd G dep (dep 109)) 109 th109 := okM (v := v109) r109 Try.func109 rfl ⟨sum_in (c' := .loop b109o0) (by kernel_rfl) (o109o0), trivial⟩ te109 ue109
def C126 := mkC 126
def c126 := gc Try.f126
def ST126 : LT := []
theorem r126 : Rp (v126 (ta126 tu105 tu108 tu109 tu122 tu128 tu129 tu130)) C126 ST126 Try.f126 (sig 126) c126 A126 := fun w => by kernel_rfl
theorem ok126 : OkS sig (Gd G dep (dep 126)) 126 th126 := okM (v := v126) r126 Try.func126 rfl trivial te126 ue126
def C123 := mkC 123
def c123 := gc Try.f123
def ST123 : LT := []
theorem r123 : Rp (v123 (ta123 tu126 tu127)) C123 ST123 Try.f123 (sig 123) c123 A123 := fun w => by kernel_rfl
theorem ok123 : OkS sig (Gd G dep (dep 123)) 123 th123 := okM (v := v123) r123 Try.func123 rfl trivial te123 ue123
def C64 := mkC 64
def c64 := gc Try.f64
def ST64 : LT := []
theorem r64 : Rp (v64 t64) C64 ST64 Try.f64 (sig 64) c64 A64 := fun w => by kernel_rfl
theorem ok64 : OkS sig (Gd G dep (dep 64)) 64 th64 := okM (v := v64) r64 Try.func64 rfl trivial te64 ue64
def C60 := mkC 60
def c60 := gc Try.f60
def ST60 : LT := []
theorem r60 : Rp (v60 t60) C60 ST60 Try.f60 (sig 60) c60 A60 := fun w => by kernel_rfl
theorem ok60 : OkS sig (Gd G dep (dep 60)) 60 th60 := okM (v := v60) r60 Try.func60 rfl trivial te60 ue60
def C61 := mkC 61
def c61 := gc Try.f61
def ST61 : LT := []
theorem r61 : Rp (v61 (ta61 tu60)) C61 ST61 Try.f61 (sig 61) c61 A61 := fun w => by kernel_rfl
theorem ok61 : OkS sig (Gd G dep (dep 61)) 61 th61 := okM (v := v61) r61 Try.func61 rfl trivial te61 ue61
def C20 := mkC 20
def c20 := gc Try.f20
def ST20 : LT := []
theorem r20 : Rp (v20 (ta20 tu60 tu61 tu64)) C20 ST20 Try.f20 (sig 20) c20 A20 := fun w => by kernel_rfl
theorem ok20 : OkS sig (Gd G dep (dep 20)) 20 th20 := okM (v := v20) r20 Try.func20 rfl trivial te20 ue20
def C24 := mkC 24
def c24 := gc Try.f24
def ST24 : LT := []
theorem r24 : Rp (v24 (ta24 tu20 tu60 tu61)) C24 ST24 Try.f24 (sig 24) c24 A24 := fun w => by kernel_rfl
theorem ok24 : OkS sig (Gd G dep (dep 24)) 24 th24 := okM (v := v24) r24 Try.func24 rfl trivial te24 ue24
def C104 := mkC 104
def c104 := gc Try.f104
def ST104 : LT := []
theorem r104 : Rp (v104 (ta104 tu24 tu105 tu108 tu122 tu123)) C104 ST104 Try.f104 (sig 104) c104 A104 := fun w => by kernel_rfl
theorem ok104 : OkS sig (Gd G dep (dep 104)) 104 th104 := okM (v := v104) r104 Try.func104 rfl trivial te104 ue104
def C89 := mkC 89
def c89 := gc Try.f89
def T89o1 : TSt := ⟨[dI, dS, .own 448, dB, .any], [(448, .row 5 1)]⟩
def X89o1e1 : TSt := ⟨[dI, dS, .own 448, dB, dB], [(448, .row 5 1)]⟩
def L89o1 (m : Nat) (w : List Vr) (K : KT) : Rs := la89o1 tu60 (vS w 1) (vB w 2) (fun n16 b17 l18 => K (.exit 0) (fillS X89o1e1 [.i n16, jS w 1, jB w 2, .b b17, .l l18])) m (vI w 0) (vV w 3) (vL w 4)
def ST89 : LT := [(1, sumT T89o1 (L89o1 KK))]
def b89o1 := bd c89 1
theorem q89o1 : Qp L89o1 C89 ST89 b89o1 2 T89o1 := fun m w K => by kernel_rfl
theorem o89o1 : SumOk C89 KK (sumT T89o1 (L89o1 KK)) (.loop b89o1) := loop_ok T89o1 L89o1 (sums_of (t := ST89) ⟨fun _ _ h => absurd h (by decide), trivial⟩) (fun _ _ => rfl) q89o1
theorem r89 : Rp (v89 (ta89 tu60)) C89 ST89 Try.f89 (sig 89) c89 A89 := fun w => by kernel_rfl
theorem ok89 : OkS sig (Gd G dep (dep 89)) 89 th89 := okM (v := v89) r89 Try.func89 rfl ⟨sum_in (c' := .loop b89o1) (by kernel_rfl) (o89o1), trivial⟩ te89 ue89
def C107 := mkC 107
def c107 := gc Try.f107
def T107o1 : TSt := ⟨[.ptr 0 0, .ptr 128 0, .ptr 192 0, dI, .own 1088, dB, .any], [(0, bx0), (128, .box [dI, dS]), (192, .box [dI, dS]), (448, .row 3 1), (1088, .row 5 1)]⟩
def X107o1e1 : TSt := ⟨[.ptr 0 0, .ptr 128 0, .ptr 192 0, dI, .own 1088, dB, dB], [(0, bx0), (128, .box [dI, dS]), (192, .box [dI, dS]), (448, .row 3 1), (1088, .row 5 1)]⟩
def L107o1 (m : Nat) (w : List Vr) (K : KT) : Rs := la107o1 tu105 tu108 tu109 tu122 (vI w 0) (vB w 1) (vL w 3) (vI w 4) (vI w 5) (vI w 6) (vS w 7) (vI w 8) (vS w 9) (vL w 10) (fun b39 l40 => K (.exit 0) (fillS X107o1e1 [jI w 0, jB w 1, .b b39, jL w 3, jI w 4, jI w 5, jI w 6, jS w 7, jI w 8, jS w 9, jL w 10, .l l40])) m (vV w 2) (vL w 11)
def ST107 : LT := [(1, sumT T107o1 (L107o1 KK))]
def b107o1 := bd c107 1
theorem q107o1 : Qp L107o1 C107 ST107 b107o1 2 T107o1 := fun m w K => by kernel_rfl
theorem o107o1 : SumOk C107 KK (sumT T107o1 (L107o1 KK)) (.loop b107o1) := loop_ok T107o1 L107o1 (sums_of (t := ST107) ⟨fun _ _ h => absurd h (by decide), trivial⟩) (fun _ _ => rfl) q107o1
theorem r107 : Rp (v107 (ta107 tu105 tu108 tu109 tu122)) C107 ST107 Try.f107 (sig 107) c107 A107 := fun w => by kernel_rfl
theorem ok107 : OkS sig (Gd G dep (dep 107)) 107 th107 := okM (v := v107) r107 Try.func107 rfl ⟨sum_in (c' := .loop b107o1) (by kernel_rfl) (o107o1), trivial⟩ te107 ue107
def C125 := mkC 125
def c125 := gc Try.f125
def ST125 : LT := []
theorem r125 : Rp (v125 (ta125 tu60)) C125 ST125 Try.f125 (sig 125) c125 A125 := fun w => by kernel_rfl
theorem ok125 : OkS sig (Gd G dep (dep 125)) 125 th125 := okM (v := v125) r125 Try.func125 rfl trivial te125 ue125
def C106 := mkC 106
def c106 := gc Try.f106
def ST106 : LT := []
theorem r106 : Rp (v106 (ta106 tu89 tu125)) C106 ST106 Try.f106 (sig 106) c106 A106 := fun w => by kernel_rfl
theorem ok106 : OkS sig (Gd G dep (dep 106)) 106 th106 := okM (v := v106) r106 Try.func106 rfl trivial te106 ue106
def C59 := mkC 59
def c59 := gc Try.f59
def ST59 : LT := []
theorem r59 : Rp (v59 (ta59 tu89 tu102 tu103 tu104 tu105 tu106 tu107 tu108 tu109)) C59 ST59 Try.f59 (sig 59) c59 A59 := fun w => by kernel_rfl
theorem ok59 : OkS sig (Gd G dep (dep 59)) 59 th59 := okM (v := v59) r59 Try.func59 rfl trivial te59 ue59
def C62 := mkC 62
def c62 := gc Try.f62
def ST62 : LT := []
theorem r62 : Rp (v62 t62) C62 ST62 Try.f62 (sig 62) c62 A62 := fun w => by kernel_rfl
theorem ok62 : OkS sig (Gd G dep (dep 62)) 62 th62 := okM (v := v62) r62 Try.func62 rfl trivial te62 ue62
def C63 := mkC 63
def c63 := gc Try.f63
def ST63 : LT := []
theorem r63 : Rp (v63 (ta63 tu62)) C63 ST63 Try.f63 (sig 63) c63 A63 := fun w => by kernel_rfl
theorem ok63 : OkS sig (Gd G dep (dep 63)) 63 th63 := okM (v := v63) r63 Try.func63 rfl trivial te63 ue63
def C22 := mkC 22
def c22 := gc Try.f22
def ST22 : LT := []
theorem r22 : Rp (v22 (ta22 tu62 tu63)) C22 ST22 Try.f22 (sig 22) c22 A22 := fun w => by kernel_rfl
theorem ok22 : OkS sig (Gd G dep (dep 22)) 22 th22 := okM (v := v22) r22 Try.func22 rfl trivial te22 ue22
def C86 := mkC 86
def c86 := gc Try.f86
def T86o0 : TSt := ⟨[dS, dI, dI, dI, dI, .any, .any, .any, .undef], []⟩
def X86o0e1 : TSt := ⟨[dS, dI, dI, dI, dI, dI, dB, dB, dB], []⟩
def X86o0e2 : TSt := ⟨[dS, dI, dI, dI, dI, .any, dB, .any, .undef], []⟩
def L86o0 (m : Nat) (w : List Vr) (K : KT) : Rs := l86o0 (vS w 0) (vI w 1) (vI w 2) (fun n23 n24 n25 n26 n27 b28 b29 b30 => K .ret (fillS X86o0e1 [jS w 0, .i n23, .i n24, .i n25, .i n26, .i n27, .b b28, .b b29, .b b30])) (fun n31 n32 v33 b34 v35 => K (.exit 0) (fillS X86o0e2 [jS w 0, jI w 1, jI w 2, .i n31, .i n32, .v v33, .b b34, .v v35])) m (vI w 3) (vI w 4) (vV w 5) (vV w 6) (vV w 7)
def ST86 : LT := [(0, sumT T86o0 (L86o0 KK))]
def b86o0 := bd c86 0
theorem q86o0 : Qp L86o0 C86 ST86 b86o0 1 T86o0 := fun m w K => by kernel_rfl
theorem o86o0 : SumOk C86 KK (sumT T86o0 (L86o0 KK)) (.loop b86o0) := loop_ok T86o0 L86o0 (sums_of (t := ST86) ⟨fun _ _ h => absurd h (by decide), trivial⟩) (fun _ _ => rfl) q86o0
theorem r86 : Rp (v86 t86) C86 ST86 Try.f86 (sig 86) c86 A86 := fun w => by kernel_rfl
theorem ok86 : OkS sig (Gd G dep (dep 86)) 86 th86 := okM (v := v86) r86 Try.func86 rfl ⟨sum_in (c' := .loop b86o0) (by kernel_rfl) (o86o0), trivial⟩ te86 ue86
def C118 := mkC 118
def c118 := gc Try.f118
def ST118 : LT := []
theorem r118 : Rp (v118 (ta118 tu62)) C118 ST118 Try.f118 (sig 118) c118 A118 := fun w => by kernel_rfl
theorem ok118 : OkS sig (Gd G dep (dep 118)) 118 th118 := okM (v := v118) r118 Try.func118 rfl trivial te118 ue118
def C87 := mkC 87
def c87 := gc Try.f87
def ST87 : LT := []
theorem r87 : Rp (v87 (ta87 tu86 tu118)) C87 ST87 Try.f87 (sig 87) c87 A87 := fun w => by kernel_rfl
theorem ok87 : OkS sig (Gd G dep (dep 87)) 87 th87 := okM (v := v87) r87 Try.func87 rfl trivial te87 ue87
def C46 := mkC 46
def c46 := gc Try.f46
def ST46 : LT := []
theorem r46 : Rp (v46 (ta46 tu22 tu62 tu86 tu87)) C46 ST46 Try.f46 (sig 46) c46 A46 := fun w => by kernel_rfl
theorem ok46 : OkS sig (Gd G dep (dep 46)) 46 th46 := okM (v := v46) r46 Try.func46 rfl trivial te46 ue46
def C84 := mkC 84
def c84 := gc Try.f84
def T84o2 : TSt := ⟨[dS, dI, dI, dI, dI, dI, dB, .any, .any], []⟩
def X84o2e1 : TSt := ⟨[dS, dI, dI, dI, dI, dI, dB, dB, .any], []⟩
def L84o2 (m : Nat) (w : List Vr) (K : KT) : Rs := la84o2 tu89 (vS w 0) (vI w 1) (vI w 2) (vI w 3) (vB w 6) (fun n71 n72 b73 v74 => K (.exit 2) (fillS X84o2e1 [jS w 0, jI w 1, jI w 2, jI w 3, .i n71, .i n72, jB w 6, .b b73, .v v74])) m (vI w 4) (vI w 5) (vV w 7) (vV w 8)
def T84o0 : TSt := ⟨[dS, dI, dI, dI, .any, .any, .any, .any, .any], []⟩
def X84o0e1 : TSt := ⟨[dS, dI, dI, dI, dI, dI, dB, dB, dB], []⟩
def X84o0e2 : TSt := ⟨[dS, dI, dI, dI, .any, .any, dB, .any, .any], []⟩
def L84o0 (m : Nat) (w : List Vr) (K : KT) : Rs := la84o0 tu89 (vS w 0) (vI w 1) (vI w 2) (fun n88 n89 n90 b91 b92 b93 => K .ret (fillS X84o0e1 [jS w 0, .i n88, .i n89, .i n89, .i n88, .i n90, .b b91, .b b92, .b b93])) (fun n94 v95 v96 b97 v98 v99 => K (.exit 0) (fillS X84o0e2 [jS w 0, jI w 1, jI w 2, .i n94, .v v95, .v v96, .b b97, .v v98, .v v99])) m (vI w 3) (vV w 4) (vV w 5) (vV w 6) (vV w 7) (vV w 8)
def ST84 : LT := [(2, sumT T84o2 (L84o2 KK)), (0, sumT T84o0 (L84o0 KK))]
def b84o2 := bd c84 2
def b84o0 := bd c84 0
theorem q84o2 : Qp L84o2 C84 ST84 b84o2 3 T84o2 := fun m w K => by kernel_rfl
theorem o84o2 : SumOk C84 KK (sumT T84o2 (L84o2 KK)) (.loop b84o2) := loop_ok T84o2 L84o2 (sums_of (t := ST84) ⟨fun _ _ h => absurd h (by decide), fun _ _ h => absurd h (by decide), trivial⟩) (fun _ _ => rfl) q84o2
theorem q84o0 : Qp L84o0 C84 ST84 b84o0 1 T84o0 := fun m w K => by kernel_rfl
theorem o84o0 : SumOk C84 KK (sumT T84o0 (L84o0 KK)) (.loop b84o0) := loop_ok T84o0 L84o0 (sums_of (t := ST84) ⟨sum_in (c' := .loop b84o2) (by kernel_rfl) (o84o2), fun _ _ h => absurd h (by decide), trivial⟩) (fun _ _ => rfl) q84o0
theorem r84 : Rp (v84 (ta84 tu89)) C84 ST84 Try.f84 (sig 84) c84 A84 := fun w => by kernel_rfl
theorem ok84 : OkS sig (Gd G dep (dep 84)) 84 th84 := okM (v := v84) r84 Try.func84 rfl ⟨sum_in (c' := .loop b84o2) (by kernel_rfl) (o84o2), sum_in (c' := .loop b84o0) (by kernel_rfl) (o84o0), trivial⟩ te84 ue84
def C92 := mkC 92
def c92 := gc Try.f92
def T92o0 : TSt := ⟨[dS, dI, dI, .nils, dI, .own 768, dI, .any, .any, .any, .any, .any], [(768, .row 3 1)]⟩
def X92o0e1 : TSt := ⟨[dS, dI, dI, .own 768, dI, .own 768, dI, .any, .any, dB, dB, .any], [(768, .row 3 1)]⟩
def X92o0e2 : TSt := ⟨[dS, dI, dI, .own 768, dI, .own 768, dI, dI, dI, dB, dB, dB], [(768, .row 3 1)]⟩
def X92o0e3 : TSt := ⟨[dS, dI, dI, .nils, dI, .own 768, dI, .any, .any, dB, .any, .any], [(768, .row 3 1)]⟩
def L92o0 (m : Nat) (w : List Vr) (K : KT) : Rs := la92o0 tu84 (vS w 0) (vI w 2) (vI w 3) (fun n32 n33 v34 v35 b36 b37 v38 l39 => K .ret (fillS X92o0e1 [jS w 0, .i n32, jI w 2, .i ((-1 : Int)), .i n33, .v v34, .v v35, .b b36, .b b37, .v v38, .l l39])) (fun n40 n41 n42 n43 b44 b45 b46 l47 => K .ret (fillS X92o0e2 [jS w 0, .i n40, jI w 2, .i ((-1 : Int)), .i n41, .i n42, .i n43, .b b44, .b b45, .b b46, .l l47])) (fun n48 n49 v50 v51 b52 v53 v54 l55 => K (.exit 0) (fillS X92o0e3 [jS w 0, .i n48, jI w 2, jI w 3, .i n49, .v v50, .v v51, .b b52, .v v53, .v v54, .l l55])) m (vI w 1) (vI w 4) (vV w 5) (vV w 6) (vV w 7) (vV w 8) (vV w 9) (vL w 10)
def ST92 : LT := [(0, sumT T92o0 (L92o0 KK))]
def b92o0 := bd c92 0
theorem q92o0 : Qp L92o0 C92 ST92 b92o0 1 T92o0 := fun m w K => by kernel_rfl
theorem o92o0 : SumOk C92 KK (sumT T92o0 (L92o0 KK)) (.loop b92o0) := loop_ok T92o0 L92o0 (sums_of (t := ST92) ⟨fun _ _ h => absurd h (by decide), trivial⟩) (fun _ _ => rfl) q92o0
theorem r92 : Rp (v92 (ta92 tu84)) C92 ST92 Try.f92 (sig 92) c92 A92 := fun w => by kernel_rfl
theorem ok92 : OkS sig (Gd G dep (dep 92)) 92 th92 := okM (v := v92) r92 Try.func92 rfl ⟨sum_in (c' := .loop b92o0) (by kernel_rfl) (o92o0), trivial⟩ te92 ue92
def C85 := mkC 85
def c85 := gc Try.f85
def ST85 : LT := []
theorem r85 : Rp (v85 (ta85 tu92 tu106)) C85 ST85 Try.f85 (sig 85) c85 A85 := fun w => by kernel_rfl
theorem ok85 : OkS sig (Gd G dep (dep 85)) 85 th85 := okM (v := v85) r85 Try.func85 rfl trivial te85 ue85
def C44 := mkC 44
def c44 := gc Try.f44
def ST44 : LT := []
theorem r44 : Rp (v44 (ta44 tu20 tu60 tu84 tu85)) C44 ST44 Try.f44 (sig 44) c44 A44 := fun w => by kernel_rfl
theorem ok44 : OkS sig (Gd G dep (dep 44)) 44 th44 := okM (v := v44) r44 Try.func44 rfl trivial te44 ue44
def C26 := mkC 26
def c26 := gc Try.f26
def ST26 : LT := []
theorem r26 : Rp (v26 (ta26 tu22 tu62 tu63)) C26 ST26 Try.f26 (sig 26) c26 A26 := fun w => by kernel_rfl
theorem ok26 : OkS sig (Gd G dep (dep 26)) 26 th26 := okM (v := v26) r26 Try.func26 rfl trivial te26 ue26
def C14 := mkC 14
def c14 := gc Try.f14
def ST14 : LT := []
theorem r14 : Rp (v14 (ta14 tu20 tu26 tu44 tu46 tu58 tu59)) C14 ST14 Try.f14 (sig 14) c14 A14 := fun w => by kernel_rfl
theorem ok14 : OkS sig (Gd G dep (dep 14)) 14 th14 := okM (v := v14) r14 Try.func14 rfl trivial te14 ue14
theorem fn_ok : ∀ f ∈ [58, 102, 124, 105, 108, 122, 103, 127, 129, 132, 130, 131, 128, 109, 126, 123, 64, 60, 61, 20, 24, 104, 89, 107, 125, 106, 59, 62, 63, 22, 86, 118, 87, 46, 84, 92, 85, 44, 26, 14], FnOk Try.prog sig f := fun f h => fnOk_of (List.all_eq_true.1 (show [58, 102, 124, 105, 108, 122, 103, 127, 129, 132, 130, 131, 128, 109, 126, 123, 64, 60, 61, 20, 24, 104, 89, 107, 125, 106, 59, 62, 63, 22, 86, 118, 87, 46, 84, 92, 85, 44, 26, 14].all (fnOkB Try.prog sig) = true by kernel_rfl) f h)
theorem ak {f : Nat} {th : List DV → Bool × List DV × List (List D)} (a : FnOk Try.prog sig f) (o : OkS sig (Gd G dep (dep f)) f th) : ∀ xs q, opt (th xs) = some q → FnOk Try.prog sig f ∧ evalBody Try.prog sig (Gd G dep (dep f)) KK f xs = some q := fun xs q h => ⟨a, o xs q h⟩
theorem all_ok : AllG (fun f xs q => FnOk Try.prog sig f ∧ evalBody Try.prog sig (Gd G dep (dep f)) KK f xs = some q) gT :=
  ⟨ak (fn_ok 58 (by simp)) ok58, ak (fn_ok 102 (by simp)) ok102, ak (fn_ok 124 (by simp)) ok124, ak (fn_ok 105 (by simp)) ok105, ak (fn_ok 108 (by simp)) ok108, ak (fn_ok 122 (by simp)) ok122, ak (fn_ok 103 (by simp)) ok103, ak (fn_ok 127 (by simp)) ok127, ak (fn_ok 129 (by simp)) ok129, ak (fn_ok 132 (by simp)) ok132, ak (fn_ok 130 (by simp)) ok130, ak (fn_ok 131 (by simp)) ok131, ak (fn_ok 128 (by simp)) ok128, ak (fn_ok 109 (by simp)) ok109, ak (fn_ok 126 (by simp)) ok126, ak (fn_ok 123 (by simp)) ok123, ak (fn_ok 64 (by simp)) ok64, ak (fn_ok 60 (by simp)) ok60, ak (fn_ok 61 (by simp)) ok61, ak (fn_ok 20 (by simp)) ok20, ak (fn_ok 24 (by simp)) ok24, ak (fn_ok 104 (by simp)) ok104, ak (fn_ok 89 (by simp)) ok89, ak (fn_ok 107 (by simp)) ok107, ak (fn_ok 125 (by simp)) ok125, ak (fn_ok 106 (by simp)) ok106, ak (fn_ok 59 (by simp)) ok59, ak (fn_ok 62 (by simp)) ok62, ak (fn_ok 63 (by simp)) ok63, ak (fn_ok 22 (by simp)) ok22, ak (fn_ok 86 (by simp)) ok86, ak (fn_ok 118 (by simp)) ok118, ak (fn_ok 87 (by simp)) ok87, ak (fn_ok 46 (by simp)) ok46, ak (fn_ok 84 (by simp)) ok84, ak (fn_ok 92 (by simp)) ok92, ak (fn_ok 85 (by simp)) ok85, ak (fn_ok 44 (by simp)) ok44, ak (fn_ok 26 (by simp)) ok26, ak (fn_ok 14 (by simp)) ok14, trivial⟩
theorem G_ok (f : Nat) : SpecOk Try.prog (sig f) (fun xs => opt (G f xs)) f := G_spec (by kernel_rfl) (allG_of all_ok) f
end
end Go.Den.L14
