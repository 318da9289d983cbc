/- The functions' table, and that each is what its twin says. Printed by tw.py. -/
import Derived.Test.YthnpflcemooaeaaL11Tw
import Derived.Test.YthnpflcemooaeaaProg
import Derived.KernelRfl
set_option linter.unusedVariables false
namespace Go.Den.L11
open Go Go.Proofs
noncomputable section
set_option maxRecDepth 100000
def U {α : Type} (a : α) : α := Classical.choose (⟨a, rfl⟩ : ∃ f, f = a)
theorem U_eq {α : Type} (a : α) : U a = a := Classical.choose_spec (⟨a, rfl⟩ : ∃ f, f = a)
abbrev dI : TV := .d (.i .i64)
abbrev dB : TV := .d .b
abbrev dS : TV := .d .s
abbrev dL : TV := .d .l
def bx0 : TB := .box [dI, .nils, dI, .nils, .nils]
def bx1 : TB := .box [dI, .nils]
def bx2 : TB := .box [dI, .own 12290, dI, .own 12292, .own 12293]
def bx3 : TB := .box [dI, .own 12290]
def bx4 : TB := .box [dI, .own 32770, dI, .own 40964, .nils]
def bx5 : TB := .box [dI, .own 32770, dI, .own 40964, .own 40965]
def bx6 : TB := .box [dI, .own 32770]
def bx7 : TB := .box [dI, dI, dI, dI, dI, dS, .own 16391, dI, dI]
def bx8 : TB := .box [dI, dI, dI, dI, dI, dS, .own 32775, dI, dI]
def bx9 : TB := .box [dI, dI, dI, dI, dI, dS, dL, dI, dI]
def bx10 : TB := .box [dI, dL, dI, dL, dL]
def bx11 : TB := .box [dI, dL]
def bx12 : TB := .box [dS, dB]
def ag0 : TV := .agg [dI, dI, dI, dI, dI, dS, dL, dI, dI]
def ag1 : TV := .agg [dI, dL, dI, dL, dL]
def ag2 : TV := .agg [dI, dL]
def bn0 : Nat × TB := (128, bx0)
def bn1 : Nat × TB := (128, bx11)
def bn2 : Nat × TB := (64, bx10)
def bn3 : Nat × TB := (64, bx11)
abbrev KT := Cont (List DV × List (List D))
def dr (a n : Nat) : List (Nat × Nat × List Nat) := (List.range n).map fun i => (a + i, 0, [])
abbrev LT := List (Nat × (St → KT → Rs))
def Qp (L : Nat → List Vr → KT → Rs) (C : Ctx) (S : LT) (b : Code) (n : Nat) (T : TSt) : Prop := ∀ m w K, L (m + 1) w K = denK C (lkS S) b n (fillS T w) (loopK T (L m) K)
abbrev jB (w : List Vr) (n : Nat) : Vr := .b (vB w n)
abbrev jI (w : List Vr) (n : Nat) : Vr := .i (vI w n)
abbrev jS (w : List Vr) (n : Nat) : Vr := .s (vS w n)
abbrev jL (w : List Vr) (n : Nat) : Vr := .l (vL w n)
abbrev jN (w : List Vr) (n : Nat) : Vr := .n (vN w n)
abbrev jV (w : List Vr) (n : Nat) : Vr := .v (vV w n)
def OkS (sig : Nat → Sig) (g : Nat → List DV → Bool × List DV × List (List D)) (f : Nat) (th : List DV → Bool × List DV × List (List D)) : Prop := ∀ xs q, opt (th xs) = some q → evalBody Try.prog sig g KK f xs = some q
def tu57 := U t57
theorem ue57 : tu57 = t57 := U_eq _
theorem te57 : t57 = t57 := rfl
def v57 (f : Y57) (w : List Vr) : Rs := f (vI w 0) (vI w 1) (vI w 2)
def th57 := fun xs => gOf zr57 zo57 (argsT A57 (v57 tu57) xs)
def tu69 := U t69
theorem ue69 : tu69 = t69 := U_eq _
theorem te69 : ta69 tu57 = t69 := by rw [ue57]; rfl
def v69 (f : Y69) (w : List Vr) : Rs := f (vI w 0)
def th69 := fun xs => gOf zr69 zo69 (argsT A69 (v69 tu69) xs)
def tu113 := U t113
theorem ue113 : tu113 = t113 := U_eq _
theorem te113 : ta113 tu69 = t113 := by rw [ue69]; rfl
def v113 (f : Y113) (w : List Vr) : Rs := f (vS w 0)
def th113 := fun xs => gOf zr113 zo113 (argsT A113 (v113 tu113) xs)
def tu78 := U t78
theorem ue78 : tu78 = t78 := U_eq _
theorem te78 : ta78 tu113 = t78 := by rw [ue113]; rfl
def v78 (f : Y78) (w : List Vr) : Rs := f (vS w 0) (vI w 1) (vI w 2)
def th78 := fun xs => gOf zr78 zo78 (argsT A78 (v78 tu78) xs)
def tu77 := U t77
theorem ue77 : tu77 = t77 := U_eq _
theorem te77 : ta77 tu78 = t77 := by rw [ue78]; rfl
def v77 (f : Y77) (w : List Vr) : Rs := f (vS w 0) (vI w 1)
def th77 := fun xs => gOf zr77 zo77 (argsT A77 (v77 tu77) xs)
def tu114 := U t114
theorem ue114 : tu114 = t114 := U_eq _
theorem te114 : ta114 tu77 tu78 = t114 := by rw [ue77, ue78]; rfl
def v114 (f : Y114) (w : List Vr) : Rs := f (vS w 0) (vI w 1)
def th114 := fun xs => gOf zr114 zo114 (argsT A114 (v114 tu114) xs)
def tu139 := U t139
theorem ue139 : tu139 = t139 := U_eq _
theorem te139 : t139 = t139 := rfl
def v139 (f : Y139) (w : List Vr) : Rs := f (vI w 0)
def th139 := fun xs => gOf zr139 zo139 (argsT A139 (v139 tu139) xs)
def tu124 := U t124
theorem ue124 : tu124 = t124 := U_eq _
theorem te124 : ta124 tu57 tu139 = t124 := by rw [ue57, ue139]; rfl
def v124 (f : Y124) (w : List Vr) : Rs := f (vS w 0)
def th124 := fun xs => gOf zr124 zo124 (argsT A124 (v124 tu124) xs)
def tu125 := U t125
theorem ue125 : tu125 = t125 := U_eq _
theorem te125 : ta125 tu57 tu139 = t125 := by rw [ue57, ue139]; rfl
def v125 (f : Y125) (w : List Vr) : Rs := f (vS w 0)
def th125 := fun xs => gOf zr125 zo125 (argsT A125 (v125 tu125) xs)
def tu126 := U t126
theorem ue126 : tu126 = t126 := U_eq _
theorem te126 : t126 = t126 := rfl
def v126 (f : Y126) (w : List Vr) : Rs := f (vI w 0) (vL w 1) (vI w 2)
def th126 := fun xs => gOf zr126 zo126 (argsT A126 (v126 tu126) xs)
def tu91 := U t91
theorem ue91 : tu91 = t91 := U_eq _
theorem te91 : ta91 tu57 tu124 tu125 tu126 = t91 := by rw [ue57, ue124, ue125, ue126]; rfl
def v91 (f : Y91) (w : List Vr) : Rs := f (vI w 0) (vL w 1) (vI w 2) (vI w 3) (vI w 4) (vI w 5) (vI w 6) (vS w 7) (vL w 8) (vI w 9) (vI w 10)
def th91 := fun xs => gOf zr91 zo91 (argsT A91 (v91 tu91) xs)
def tu92 := U t92
theorem ue92 : tu92 = t92 := U_eq _
theorem te92 : ta92 tu126 = t92 := by rw [ue126]; rfl
def v92 (f : Y92) (w : List Vr) : Rs := f (vI w 0) (vL w 1) (vI w 2)
def th92 := fun xs => gOf zr92 zo92 (argsT A92 (v92 tu92) xs)
def tu93 := U t93
theorem ue93 : tu93 = t93 := U_eq _
theorem te93 : t93 = t93 := rfl
def v93 (f : Y93) (w : List Vr) : Rs := f (vI w 0) (vL w 1) (vI w 2)
def th93 := fun xs => gOf zr93 zo93 (argsT A93 (v93 tu93) xs)
def tu94 := U t94
theorem ue94 : tu94 = t94 := U_eq _
theorem te94 : t94 = t94 := rfl
def v94 (f : Y94) (w : List Vr) : Rs := f (vI w 0) (vL w 1)
def th94 := fun xs => gOf zr94 zo94 (argsT A94 (v94 tu94) xs)
def tu127 := U t127
theorem ue127 : tu127 = t127 := U_eq _
theorem te127 : ta127 tu92 = t127 := by rw [ue92]; rfl
def v127 (f : Y127) (w : List Vr) : Rs := f (vI w 0) (vL w 1) (vI w 2)
def th127 := fun xs => gOf zr127 zo127 (argsT A127 (v127 tu127) xs)
def tu95 := U t95
theorem ue95 : tu95 = t95 := U_eq _
theorem te95 : ta95 tu127 = t95 := by rw [ue127]; rfl
def v95 (f : Y95) (w : List Vr) : Rs := f (vI w 0) (vL w 1)
def th95 := fun xs => gOf zr95 zo95 (argsT A95 (v95 tu95) xs)
def tu56 := U t56
theorem ue56 : tu56 = t56 := U_eq _
theorem te56 : ta56 tu57 tu91 tu92 tu93 tu94 tu95 = t56 := by rw [ue57, ue91, ue92, ue93, ue94, ue95]; rfl
def v56 (f : Y56) (w : List Vr) : Rs := f (vI w 0) (vL w 1)
def th56 := fun xs => gOf zr56 zo56 (argsT A56 (v56 tu56) xs)
def tu67 := U t67
theorem ue67 : tu67 = t67 := U_eq _
theorem te67 : ta67 tu69 = t67 := by rw [ue69]; rfl
def v67 (f : Y67) (w : List Vr) : Rs := f (vS w 0)
def th67 := fun xs => gOf zr67 zo67 (argsT A67 (v67 tu67) xs)
def tu68 := U t68
theorem ue68 : tu68 = t68 := U_eq _
theorem te68 : ta68 tu56 tu67 tu69 = t68 := by rw [ue56, ue67, ue69]; rfl
def v68 (f : Y68) (w : List Vr) : Rs := f (vI w 0) (vL w 1)
def th68 := fun xs => gOf zr68 zo68 (argsT A68 (v68 tu68) xs)
def tu79 := U t79
theorem ue79 : tu79 = t79 := U_eq _
theorem te79 : ta79 tu68 tu78 tu114 = t79 := by rw [ue68, ue78, ue114]; rfl
def v79 (f : Y79) (w : List Vr) : Rs := f (vS w 0)
def th79 := fun xs => gOf zr79 zo79 (argsT A79 (v79 tu79) xs)
def tu59 := U t59
theorem ue59 : tu59 = t59 := U_eq _
theorem te59 : ta59 tu57 = t59 := by rw [ue57]; rfl
def v59 (f : Y59) (w : List Vr) : Rs := f (vI w 0) (vS w 1)
def th59 := fun xs => gOf zr59 zo59 (argsT A59 (v59 tu59) xs)
def tu70 := U t70
theorem ue70 : tu70 = t70 := U_eq _
theorem te70 : ta70 tu59 tu69 = t70 := by rw [ue59, ue69]; rfl
def v70 (f : Y70) (w : List Vr) : Rs := f (vI w 0) (vS w 1)
def th70 := fun xs => gOf zr70 zo70 (argsT A70 (v70 tu70) xs)
def tu80 := U t80
theorem ue80 : tu80 = t80 := U_eq _
theorem te80 : ta80 tu70 tu78 = t80 := by rw [ue70, ue78]; rfl
def v80 (f : Y80) (w : List Vr) : Rs := f (vS w 0)
def th80 := fun xs => gOf zr80 zo80 (argsT A80 (v80 tu80) xs)
def tu58 := U t58
theorem ue58 : tu58 = t58 := U_eq _
theorem te58 : ta58 tu57 = t58 := by rw [ue57]; rfl
def v58 (f : Y58) (w : List Vr) : Rs := f (vL w 0)
def th58 := fun xs => gOf zr58 zo58 (argsT A58 (v58 tu58) xs)
def tu23 := U t23
theorem ue23 : tu23 = t23 := U_eq _
theorem te23 : ta23 tu56 tu57 tu58 tu59 = t23 := by rw [ue56, ue57, ue58, ue59]; rfl
def v23 (f : Y23) (w : List Vr) : Rs := f (vI w 0) (vL w 1) (vI w 2) (vL w 3) (vL w 4)
def th23 := fun xs => gOf zr23 zo23 (argsT A23 (v23 tu23) xs)
def tu30 := U t30
theorem ue30 : tu30 = t30 := U_eq _
theorem te30 : ta30 tu23 tu67 tu68 tu69 tu70 = t30 := by rw [ue23, ue67, ue68, ue69, ue70]; rfl
def v30 (f : Y30) (w : List Vr) : Rs := f (vI w 0) (vL w 1) (vI w 2) (vL w 3) (vL w 4)
def th30 := fun xs => gOf zr30 zo30 (argsT A30 (v30 tu30) xs)
def tu36 := U t36
theorem ue36 : tu36 = t36 := U_eq _
theorem te36 : ta36 tu30 tu77 tu78 tu79 tu80 = t36 := by rw [ue30, ue77, ue78, ue79, ue80]; rfl
def v36 (f : Y36) (w : List Vr) : Rs := f (vS w 0)
def th36 := fun xs => gOf zr36 zo36 (argsT A36 (v36 tu36) xs)
def tu27 := U t27
theorem ue27 : tu27 = t27 := U_eq _
theorem te27 : ta27 tu23 = t27 := by rw [ue23]; rfl
def v27 (f : Y27) (w : List Vr) : Rs := f (vL w 0)
def th27 := fun xs => gOf zr27 zo27 (argsT A27 (v27 tu27) xs)
def tu32 := U t32
theorem ue32 : tu32 = t32 := U_eq _
theorem te32 : ta32 tu27 tu30 tu67 = t32 := by rw [ue27, ue30, ue67]; rfl
def v32 (f : Y32) (w : List Vr) : Rs := f (vL w 0)
def th32 := fun xs => gOf zr32 zo32 (argsT A32 (v32 tu32) xs)
def tu38 := U t38
theorem ue38 : tu38 = t38 := U_eq _
theorem te38 : ta38 tu32 tu36 tu77 = t38 := by rw [ue32, ue36, ue77]; rfl
def v38 (f : Y38) (w : List Vr) : Rs := f (vS w 0)
def th38 := fun xs => gOf zr38 zo38 (argsT A38 (v38 tu38) xs)
def tu136 := U t136
theorem ue136 : tu136 = t136 := U_eq _
theorem te136 : t136 = t136 := rfl
def v136 (f : Y136) (w : List Vr) : Rs := f (vS w 0)
def th136 := fun xs => gOf zr136 zo136 (argsT A136 (v136 tu136) xs)
def tu116 := U t116
theorem ue116 : tu116 = t116 := U_eq _
theorem te116 : ta116 tu136 = t116 := by rw [ue136]; rfl
def v116 (f : Y116) (w : List Vr) : Rs := f (vS w 0) (vB w 1)
def th116 := fun xs => gOf zr116 zo116 (argsT A116 (v116 tu116) xs)
def tu119 := U t119
theorem ue119 : tu119 = t119 := U_eq _
theorem te119 : t119 = t119 := rfl
def v119 (f : Y119) (w : List Vr) : Rs := f (vS w 0) (vB w 1) (vI w 2)
def th119 := fun xs => gOf zr119 zo119 (argsT A119 (v119 tu119) xs)
def tu82 := U t82
theorem ue82 : tu82 = t82 := U_eq _
theorem te82 : ta82 tu116 tu119 = t82 := by rw [ue116, ue119]; rfl
def v82 (f : Y82) (w : List Vr) : Rs := f (vS w 0) (vB w 1)
def th82 := fun xs => gOf zr82 zo82 (argsT A82 (v82 tu82) xs)
def tu117 := U t117
theorem ue117 : tu117 = t117 := U_eq _
theorem te117 : ta117 tu116 = t117 := by rw [ue116]; rfl
def v117 (f : Y117) (w : List Vr) : Rs := f (vS w 0) (vB w 1) (vI w 2)
def th117 := fun xs => gOf zr117 zo117 (argsT A117 (v117 tu117) xs)
def tu115 := U t115
theorem ue115 : tu115 = t115 := U_eq _
theorem te115 : ta115 tu82 tu116 tu117 = t115 := by rw [ue82, ue116, ue117]; rfl
def v115 (f : Y115) (w : List Vr) : Rs := f (vS w 0) (vB w 1)
def th115 := fun xs => gOf zr115 zo115 (argsT A115 (v115 tu115) xs)
def tu63 := U t63
theorem ue63 : tu63 = t63 := U_eq _
theorem te63 : t63 = t63 := rfl
def v63 (f : Y63) (w : List Vr) : Rs := f (vI w 0) (vI w 1) (vI w 2)
def th63 := fun xs => gOf zr63 zo63 (argsT A63 (v63 tu63) xs)
def tu64 := U t64
theorem ue64 : tu64 = t64 := U_eq _
theorem te64 : ta64 tu63 = t64 := by rw [ue63]; rfl
def v64 (f : Y64) (w : List Vr) : Rs := f (vI w 0) (vS w 1)
def th64 := fun xs => gOf zr64 zo64 (argsT A64 (v64 tu64) xs)
def tu118 := U t118
theorem ue118 : tu118 = t118 := U_eq _
theorem te118 : ta118 tu64 tu136 = t118 := by rw [ue64, ue136]; rfl
def v118 (f : Y118) (w : List Vr) : Rs := f (vS w 0)
def th118 := fun xs => gOf zr118 zo118 (argsT A118 (v118 tu118) xs)
def tu81 := U t81
theorem ue81 : tu81 = t81 := U_eq _
theorem te81 : ta81 tu82 tu115 tu116 tu117 tu118 = t81 := by rw [ue82, ue115, ue116, ue117, ue118]; rfl
def v81 (f : Y81) (w : List Vr) : Rs := f (vS w 0) (vB w 1)
def th81 := fun xs => gOf zr81 zo81 (argsT A81 (v81 tu81) xs)
def tu65 := U t65
theorem ue65 : tu65 = t65 := U_eq _
theorem te65 : ta65 tu63 = t65 := by rw [ue63]; rfl
def v65 (f : Y65) (w : List Vr) : Rs := f (vL w 0)
def th65 := fun xs => gOf zr65 zo65 (argsT A65 (v65 tu65) xs)
def tu141 := U t141
theorem ue141 : tu141 = t141 := U_eq _
theorem te141 : t141 = t141 := rfl
def v141 (f : Y141) (w : List Vr) : Rs := f (vI w 0)
def th141 := fun xs => gOf zr141 zo141 (argsT A141 (v141 tu141) xs)
def tu130 := U t130
theorem ue130 : tu130 = t130 := U_eq _
theorem te130 : ta130 tu63 tu141 = t130 := by rw [ue63, ue141]; rfl
def v130 (f : Y130) (w : List Vr) : Rs := f (vS w 0)
def th130 := fun xs => gOf zr130 zo130 (argsT A130 (v130 tu130) xs)
def tu142 := U t142
theorem ue142 : tu142 = t142 := U_eq _
theorem te142 : ta142 tu63 tu141 = t142 := by rw [ue63, ue141]; rfl
def v142 (f : Y142) (w : List Vr) : Rs := f (vS w 0)
def th142 := fun xs => gOf zr142 zo142 (argsT A142 (v142 tu142) xs)
def tu132 := U t132
theorem ue132 : tu132 = t132 := U_eq _
theorem te132 : t132 = t132 := rfl
def v132 (f : Y132) (w : List Vr) : Rs := f (vI w 0) (vL w 1) (vI w 2)
def th132 := fun xs => gOf zr132 zo132 (argsT A132 (v132 tu132) xs)
def tu131 := U t131
theorem ue131 : tu131 = t131 := U_eq _
theorem te131 : ta131 tu132 tu142 = t131 := by rw [ue132, ue142]; rfl
def v131 (f : Y131) (w : List Vr) : Rs := f (vI w 0) (vL w 1) (vI w 2) (vI w 3) (vI w 4) (vI w 5) (vI w 6) (vS w 7) (vL w 8) (vI w 9) (vI w 10)
def th131 := fun xs => gOf zr131 zo131 (argsT A131 (v131 tu131) xs)
def tu99 := U t99
theorem ue99 : tu99 = t99 := U_eq _
theorem te99 : ta99 tu63 tu130 tu131 = t99 := by rw [ue63, ue130, ue131]; rfl
def v99 (f : Y99) (w : List Vr) : Rs := f (vI w 0) (vL w 1) (vI w 2) (vI w 3) (vI w 4) (vI w 5) (vI w 6) (vS w 7) (vL w 8) (vI w 9) (vI w 10)
def th99 := fun xs => gOf zr99 zo99 (argsT A99 (v99 tu99) xs)
def tu133 := U t133
theorem ue133 : tu133 = t133 := U_eq _
theorem te133 : t133 = t133 := rfl
def v133 (f : Y133) (w : List Vr) : Rs := f (vL w 0) (vI w 1)
def th133 := fun xs => gOf zr133 zo133 (argsT A133 (v133 tu133) xs)
def tu101 := U t101
theorem ue101 : tu101 = t101 := U_eq _
theorem te101 : ta101 tu133 = t101 := by rw [ue133]; rfl
def v101 (f : Y101) (w : List Vr) : Rs := f (vL w 0) (vI w 1)
def th101 := fun xs => gOf zr101 zo101 (argsT A101 (v101 tu101) xs)
def tu100 := U t100
theorem ue100 : tu100 = t100 := U_eq _
theorem te100 : ta100 tu101 tu132 = t100 := by rw [ue101, ue132]; rfl
def v100 (f : Y100) (w : List Vr) : Rs := f (vI w 0) (vL w 1) (vI w 2)
def th100 := fun xs => gOf zr100 zo100 (argsT A100 (v100 tu100) xs)
def tu102 := U t102
theorem ue102 : tu102 = t102 := U_eq _
theorem te102 : t102 = t102 := rfl
def v102 (f : Y102) (w : List Vr) : Rs := f (vI w 0) (vL w 1) (vI w 2)
def th102 := fun xs => gOf zr102 zo102 (argsT A102 (v102 tu102) xs)
def tu103 := U t103
theorem ue103 : tu103 = t103 := U_eq _
theorem te103 : t103 = t103 := rfl
def v103 (f : Y103) (w : List Vr) : Rs := f (vI w 0) (vL w 1)
def th103 := fun xs => gOf zr103 zo103 (argsT A103 (v103 tu103) xs)
def tu135 := U t135
theorem ue135 : tu135 = t135 := U_eq _
theorem te135 : ta135 tu100 tu132 = t135 := by rw [ue100, ue132]; rfl
def v135 (f : Y135) (w : List Vr) : Rs := f (vI w 0) (vL w 1) (vI w 2)
def th135 := fun xs => gOf zr135 zo135 (argsT A135 (v135 tu135) xs)
def tu105 := U t105
theorem ue105 : tu105 = t105 := U_eq _
theorem te105 : ta105 tu135 = t105 := by rw [ue135]; rfl
def v105 (f : Y105) (w : List Vr) : Rs := f (vI w 0) (vL w 1) (vI w 2) (vI w 3) (vI w 4) (vI w 5) (vI w 6) (vS w 7) (vL w 8) (vI w 9) (vI w 10)
def th105 := fun xs => gOf zr105 zo105 (argsT A105 (v105 tu105) xs)
def tu134 := U t134
theorem ue134 : tu134 = t134 := U_eq _
theorem te134 : ta134 tu105 = t134 := by rw [ue105]; rfl
def v134 (f : Y134) (w : List Vr) : Rs := f (vL w 0) (vI w 1) (vL w 2)
def th134 := fun xs => gOf zr134 zo134 (argsT A134 (v134 tu134) xs)
def tu104 := U t104
theorem ue104 : tu104 = t104 := U_eq _
theorem te104 : ta104 tu134 = t104 := by rw [ue134]; rfl
def v104 (f : Y104) (w : List Vr) : Rs := f (vL w 0) (vI w 1) (vL w 2)
def th104 := fun xs => gOf zr104 zo104 (argsT A104 (v104 tu104) xs)
def tu66 := U t66
theorem ue66 : tu66 = t66 := U_eq _
theorem te66 : ta66 tu63 tu99 tu100 tu101 tu102 tu103 tu104 = t66 := by rw [ue63, ue99, ue100, ue101, ue102, ue103, ue104]; rfl
def v66 (f : Y66) (w : List Vr) : Rs := f (vI w 0) (vL w 1)
def th66 := fun xs => gOf zr66 zo66 (argsT A66 (v66 tu66) xs)
def tu25 := U t25
theorem ue25 : tu25 = t25 := U_eq _
theorem te25 : ta25 tu63 tu64 tu65 tu66 = t25 := by rw [ue63, ue64, ue65, ue66]; rfl
def v25 (f : Y25) (w : List Vr) : Rs := f (vI w 0) (vL w 1) (vI w 2) (vL w 3) (vL w 4)
def th25 := fun xs => gOf zr25 zo25 (argsT A25 (v25 tu25) xs)
def tu37 := U t37
theorem ue37 : tu37 = t37 := U_eq _
theorem te37 : ta37 tu25 tu81 = t37 := by rw [ue25, ue81]; rfl
def v37 (f : Y37) (w : List Vr) : Rs := f (vS w 0)
def th37 := fun xs => gOf zr37 zo37 (argsT A37 (v37 tu37) xs)
def tu39 := U t39
theorem ue39 : tu39 = t39 := U_eq _
theorem te39 : ta39 tu37 tu82 = t39 := by rw [ue37, ue82]; rfl
def v39 (f : Y39) (w : List Vr) : Rs := f (vS w 0)
def th39 := fun xs => gOf zr39 zo39 (argsT A39 (v39 tu39) xs)
def tu143 := U t143
theorem ue143 : tu143 = t143 := U_eq _
theorem te143 : t143 = t143 := rfl
def v143 (f : Y143) (w : List Vr) : Rs := f (vS w 0) (vI w 1) (vS w 2) (vI w 3)
def th143 := fun xs => gOf zr143 zo143 (argsT A143 (v143 tu143) xs)
def tu137 := U t137
theorem ue137 : tu137 = t137 := U_eq _
theorem te137 : ta137 tu143 = t137 := by rw [ue143]; rfl
def v137 (f : Y137) (w : List Vr) : Rs := f (vL w 0) (vL w 1)
def th137 := fun xs => gOf zr137 zo137 (argsT A137 (v137 tu137) xs)
def tu120 := U t120
theorem ue120 : tu120 = t120 := U_eq _
theorem te120 : ta120 tu137 = t120 := by rw [ue137]; rfl
def v120 (f : Y120) (w : List Vr) : Rs := f (vI w 0) (vI w 1) (vI w 2) (vI w 3) (vI w 4) (vS w 5) (vL w 6) (vI w 7) (vI w 8) (vI w 9) (vI w 10) (vI w 11) (vI w 12) (vI w 13) (vS w 14) (vL w 15) (vI w 16) (vI w 17)
def th120 := fun xs => gOf zr120 zo120 (argsT A120 (v120 tu120) xs)
def tu83 := U t83
theorem ue83 : tu83 = t83 := U_eq _
theorem te83 : ta83 tu120 = t83 := by rw [ue120]; rfl
def v83 (f : Y83) (w : List Vr) : Rs := f (vL w 0) (vL w 1)
def th83 := fun xs => gOf zr83 zo83 (argsT A83 (v83 tu83) xs)
def tu42 := U t42
theorem ue42 : tu42 = t42 := U_eq _
theorem te42 : ta42 tu83 = t42 := by rw [ue83]; rfl
def v42 (f : Y42) (w : List Vr) : Rs := f (vI w 0) (vL w 1) (vI w 2) (vL w 3)
def th42 := fun xs => gOf zr42 zo42 (argsT A42 (v42 tu42) xs)
def tu84 := U t84
theorem ue84 : tu84 = t84 := U_eq _
theorem te84 : t84 = t84 := rfl
def v84 (f : Y84) (w : List Vr) : Rs := f (vI w 0) (vI w 1) (vI w 2) (vI w 3) (vI w 4) (vI w 5) (vI w 6) (vI w 7) (vI w 8) (vI w 9)
def th84 := fun xs => gOf zr84 zo84 (argsT A84 (v84 tu84) xs)
def tu43 := U t43
theorem ue43 : tu43 = t43 := U_eq _
theorem te43 : ta43 tu84 = t43 := by rw [ue84]; rfl
def v43 (f : Y43) (w : List Vr) : Rs := f (vL w 0) (vL w 1)
def th43 := fun xs => gOf zr43 zo43 (argsT A43 (v43 tu43) xs)
def tu121 := U t121
theorem ue121 : tu121 = t121 := U_eq _
theorem te121 : t121 = t121 := rfl
def v121 (f : Y121) (w : List Vr) : Rs := f (vI w 0) (vS w 1) (vI w 2) (vS w 3)
def th121 := fun xs => gOf zr121 zo121 (argsT A121 (v121 tu121) xs)
def tu85 := U t85
theorem ue85 : tu85 = t85 := U_eq _
theorem te85 : ta85 tu121 = t85 := by rw [ue121]; rfl
def v85 (f : Y85) (w : List Vr) : Rs := f (vI w 0) (vI w 1) (vI w 2) (vI w 3) (vS w 4) (vI w 5) (vI w 6) (vI w 7) (vI w 8) (vS w 9)
def th85 := fun xs => gOf zr85 zo85 (argsT A85 (v85 tu85) xs)
def tu44 := U t44
theorem ue44 : tu44 = t44 := U_eq _
theorem te44 : ta44 tu85 = t44 := by rw [ue85]; rfl
def v44 (f : Y44) (w : List Vr) : Rs := f (vL w 0) (vL w 1)
def th44 := fun xs => gOf zr44 zo44 (argsT A44 (v44 tu44) xs)
def tu14 := U t14
theorem ue14 : tu14 = t14 := U_eq _
theorem te14 : ta14 tu42 tu43 tu44 = t14 := by rw [ue42, ue43, ue44]; rfl
def v14 (f : Y14) (w : List Vr) : Rs := f (vI w 0) (vL w 1) (vI w 2) (vL w 3) (vL w 4) (vI w 5) (vL w 6) (vI w 7) (vL w 8) (vL w 9)
def th14 := fun xs => gOf zr14 zo14 (argsT A14 (v14 tu14) xs)
def tu19 := U t19
theorem ue19 : tu19 = t19 := U_eq _
theorem te19 : ta19 tu14 = t19 := by rw [ue14]; rfl
def v19 (f : Y19) (w : List Vr) : Rs := f (vL w 0) (vL w 1)
def th19 := fun xs => gOf zr19 zo19 (argsT A19 (v19 tu19) xs)
def tu86 := U t86
theorem ue86 : tu86 = t86 := U_eq _
theorem te86 : t86 = t86 := rfl
def v86 (f : Y86) (w : List Vr) : Rs := f (vI w 0)
def th86 := fun xs => gOf zr86 zo86 (argsT A86 (v86 tu86) xs)
def tu87 := U t87
theorem ue87 : tu87 = t87 := U_eq _
theorem te87 : ta87 tu86 = t87 := by rw [ue86]; rfl
def v87 (f : Y87) (w : List Vr) : Rs := f (vL w 0) (vI w 1)
def th87 := fun xs => gOf zr87 zo87 (argsT A87 (v87 tu87) xs)
def tu51 := U t51
theorem ue51 : tu51 = t51 := U_eq _
theorem te51 : ta51 tu86 tu87 = t51 := by rw [ue86, ue87]; rfl
def v51 (f : Y51) (w : List Vr) : Rs := f (vL w 0) (vI w 1)
def th51 := fun xs => gOf zr51 zo51 (argsT A51 (v51 tu51) xs)
def tu46 := U t46
theorem ue46 : tu46 = t46 := U_eq _
theorem te46 : t46 = t46 := rfl
def v46 (f : Y46) (w : List Vr) : Rs := f (vL w 0) (vI w 1)
def th46 := fun xs => gOf zr46 zo46 (argsT A46 (v46 tu46) xs)
def tu47 := U t47
theorem ue47 : tu47 = t47 := U_eq _
theorem te47 : ta47 tu86 = t47 := by rw [ue86]; rfl
def v47 (f : Y47) (w : List Vr) : Rs := f (vL w 0) (vI w 1)
def th47 := fun xs => gOf zr47 zo47 (argsT A47 (v47 tu47) xs)
def tu20 := U t20
theorem ue20 : tu20 = t20 := U_eq _
theorem te20 : ta20 tu46 tu47 tu51 = t20 := by rw [ue46, ue47, ue51]; rfl
def v20 (f : Y20) (w : List Vr) : Rs := f (vL w 0) (vI w 1)
def th20 := fun xs => gOf zr20 zo20 (argsT A20 (v20 tu20) xs)
def tu88 := U t88
theorem ue88 : tu88 = t88 := U_eq _
theorem te88 : ta88 tu86 = t88 := by rw [ue86]; rfl
def v88 (f : Y88) (w : List Vr) : Rs := f (vL w 0) (vI w 1)
def th88 := fun xs => gOf zr88 zo88 (argsT A88 (v88 tu88) xs)
def tu52 := U t52
theorem ue52 : tu52 = t52 := U_eq _
theorem te52 : ta52 tu86 tu88 = t52 := by rw [ue86, ue88]; rfl
def v52 (f : Y52) (w : List Vr) : Rs := f (vL w 0) (vI w 1)
def th52 := fun xs => gOf zr52 zo52 (argsT A52 (v52 tu52) xs)
def tu49 := U t49
theorem ue49 : tu49 = t49 := U_eq _
theorem te49 : t49 = t49 := rfl
def v49 (f : Y49) (w : List Vr) : Rs := f (vL w 0) (vI w 1)
def th49 := fun xs => gOf zr49 zo49 (argsT A49 (v49 tu49) xs)
def tu50 := U t50
theorem ue50 : tu50 = t50 := U_eq _
theorem te50 : ta50 tu86 = t50 := by rw [ue86]; rfl
def v50 (f : Y50) (w : List Vr) : Rs := f (vL w 0) (vI w 1)
def th50 := fun xs => gOf zr50 zo50 (argsT A50 (v50 tu50) xs)
def tu21 := U t21
theorem ue21 : tu21 = t21 := U_eq _
theorem te21 : ta21 tu49 tu50 tu52 = t21 := by rw [ue49, ue50, ue52]; rfl
def v21 (f : Y21) (w : List Vr) : Rs := f (vL w 0) (vI w 1)
def th21 := fun xs => gOf zr21 zo21 (argsT A21 (v21 tu21) xs)
def tu11 := U t11
theorem ue11 : tu11 = t11 := U_eq _
theorem te11 : ta11 tu19 tu20 tu21 tu38 tu39 = t11 := by rw [ue19, ue20, ue21, ue38, ue39]; rfl
def v11 (f : Y11) (w : List Vr) : Rs := f (vS w 0)
def th11 := fun xs => gOf zr11 zo11 (argsT A11 (v11 tu11) xs)
def sg57 : Sig := ⟨[.bor, .bor, .bor], .sc [.one (.b false)], [0, 1, 2, 6], []⟩
def sg69 : Sig := ⟨[.bor], .sc [.one (.s ⟨#[]⟩)], [0, 2, 3, 6, 9], []⟩
def sg113 : Sig := ⟨[.bor], .sc [.one (.i .i64 0), .one (.i .i64 0)], [0, 2, 3, 4, 5, 6, 14, 20, 36], [(9, dr 0 6)]⟩
def sg78 : Sig := ⟨[.bor, .bor, .bor], .fresh [[some (3, 1)], [none]], [0, 1, 2, 6, 7, 8, 9, 10, 11, 15, 25, 35], []⟩
def sg77 : Sig := ⟨[.bor, .bor], .sc [.one (.s ⟨#[]⟩), .one (.i .i64 0)], [0, 1, 4, 5, 6, 7, 25], [(4, dr 0 15)]⟩
def sg114 : Sig := ⟨[.bor, .bor], .fresh [[none, none, none, none, none, none, some (129, 2), none, none], [none]], [0, 1, 4, 5, 6, 7, 8, 9, 10, 11, 12, 13, 14, 22, 53, 70, 76, 92], [(4, [(22, 2, [])] ++ dr 0 22 ++ [(23, 1, [])]), (19, dr 0 7 ++ [(7, 1, [0, 1]), (8, 1, []), (9, 0, []), (10, 1, [])]), (1000012, [(512, 6, [129, 2])])]⟩
def sg139 : Sig := ⟨[.bor], .sc [.one (.b false)], [0, 2], []⟩
def sg124 : Sig := ⟨[.bor], .sc [.one (.b false)], [0, 2, 3, 7, 11, 24], []⟩
def sg125 : Sig := ⟨[.bor], .sc [.one (.b false)], [0, 2, 3, 15, 19, 26], []⟩
def sg126 : Sig := ⟨[.bor, .bor], .sc [.one (.i .i64 0)], [0, 1, 2, 4, 5, 10, 20], []⟩
def sg91 : Sig := ⟨[.bor, .bor], .sc [.one (.b false)], [0, 1, 2, 3, 4, 5, 6, 7, 23, 39, 40, 49, 62, 84, 89, 128], [(16, dr 0 32)]⟩
def sg92 : Sig := ⟨[.bor, .bor], .fresh [[some (4, 1)]], [0, 1, 2, 4, 5, 6, 7, 8, 9, 10, 11, 24, 33, 40, 47, 56, 72], [(17, dr 0 13)]⟩
def sg93 : Sig := ⟨[.bor, .bor], .sc [.one (.i .i64 0)], [0, 1, 2, 4, 5, 6, 7, 12, 23, 37], []⟩
def sg94 : Sig := ⟨[.bor], .sc [.one (.i .i64 0)], [0, 1, 2, 3, 4, 9], []⟩
def sg127 : Sig := ⟨[.bor, .bor], .sc [.one (.i .i64 0), .one (.i .i64 0)], [0, 1, 2, 4, 5, 6, 7, 8, 9, 16, 22], []⟩
def sg95 : Sig := ⟨[.bor], .sc [.one (.b false)], [0, 1, 2, 3, 4, 5, 6, 11, 31, 58], []⟩
def sg56 : Sig := ⟨[.bor], .sc [.one (.b false)], [0, 1, 2, 3, 4, 5, 6, 33, 38, 74, 81, 108], [(7, dr 0 29), (13, dr 0 25)]⟩
def sg67 : Sig := ⟨[.bor], .sc [.one (.s ⟨#[]⟩)], [0, 2], []⟩
def sg68 : Sig := ⟨[.bor], .sc [.one (.s ⟨#[]⟩)], [0, 1, 2, 3, 4, 5, 6, 9, 22, 72], [(3, dr 0 9), (8, dr 0 38 ++ [(38, 1, [])]), (12, dr 0 17 ++ [(17, 1, [])])]⟩
def sg79 : Sig := ⟨[.bor], .fresh [[none, some (64, 9)], [none]], [0, 2, 3, 4, 5, 6, 7, 8, 9, 22, 32, 42, 54], [(1000005, [(384, 1, [64, 9])])]⟩
def sg59 : Sig := ⟨[.bor], .sc [.one (.b false)], [0, 1, 2], []⟩
def sg70 : Sig := ⟨[.bor], .sc [.one (.s ⟨#[]⟩)], [0, 1, 2, 5], [(3, dr 0 7)]⟩
def sg80 : Sig := ⟨[.bor], .sc [.agg [.i .i64 0, .s ⟨#[]⟩], .one (.b false)], [0, 2, 3, 4, 5, 6, 13, 25], [(4, [(7, 2, [])] ++ dr 0 7 ++ [(8, 1, [])])]⟩
def sg58 : Sig := ⟨[.bor], .sc [.one (.b false)], [0, 2, 3, 4, 7, 11, 60], [(7, dr 0 43)]⟩
def sg23 : Sig := ⟨[.bor], .sc [.one (.b false)], [0, 1, 2, 3, 4, 26, 31, 76], [(7, dr 0 38)]⟩
def sg30 : Sig := ⟨[.bor], .sc [.one (.s ⟨#[]⟩)], [0, 1, 2, 3, 4, 5, 6, 7, 10, 28, 67], [(3, dr 0 14), (8, dr 0 21 ++ [(21, 1, [])]), (14, dr 0 18 ++ [(18, 1, [])])]⟩
def sg36 : Sig := ⟨[.bor], .fresh [[none, some (64, 9), none, some (90, 5), some (81, 5)], [none]], [0, 2, 3, 4, 5, 6, 7, 8, 10, 11, 12, 13, 14, 15, 16, 17, 18, 19, 20, 40, 56, 66, 103, 109, 134, 156], [(7, [(5, 2, [])] ++ dr 0 5 ++ [(6, 1, [])]), (14, dr 0 18 ++ [(18, 1, [0, 1]), (19, 1, []), (20, 0, []), (21, 1, [])]), (27, dr 0 13 ++ [(13, 1, [0, 1]), (14, 1, []), (15, 0, []), (16, 1, [])]), (1000008, [(640, 3, [90, 5])]), (1000019, [(640, 4, [81, 5])])]⟩
def sg27 : Sig := ⟨[.bor], .sc [.one (.b false)], [0, 2, 3, 6, 10, 18], []⟩
def sg32 : Sig := ⟨[.bor], .sc [.one (.s ⟨#[]⟩)], [0, 2, 3, 4, 7, 11], []⟩
def sg38 : Sig := ⟨[.bor], .fresh [[some (28, 5)], [none]], [0, 2, 3, 4, 5, 6, 7, 8, 9, 10, 13, 32, 48], []⟩
def sg136 : Sig := ⟨[.bor], .sc [.one (.i .i64 0), .one (.i .i64 0)], [0, 2, 3, 4, 5, 6, 14, 29, 35], []⟩
def sg116 : Sig := ⟨[.ptr [none, none]], .sc [.one (.i .i64 0)], [0, 2, 3, 4, 20], []⟩
def sg119 : Sig := ⟨[.ptr [none, none], .bor], .sc [.one (.s ⟨#[]⟩)], [0, 1, 4, 5, 18], []⟩
def sg82 : Sig := ⟨[.ptr [none, none]], .sc [.one (.s ⟨#[]⟩)], [0, 2], []⟩
def sg117 : Sig := ⟨[.ptr [none, none], .bor], .sc [.one (.i .i64 0)], [0, 1, 4, 5, 10], []⟩
def sg115 : Sig := ⟨[.ptr [none, none]], .fresh [[none, some (64, 9)]], [0, 2, 3, 4, 5, 10, 11, 12, 38, 39, 40], [(1000002, [(192, 1, [64, 9])]), (1000012, [(256, 6, [129, 2])])]⟩
def sg63 : Sig := ⟨[.bor, .bor, .bor], .sc [.one (.b false)], [0, 1, 2, 6], []⟩
def sg64 : Sig := ⟨[.bor], .sc [.one (.b false)], [0, 1, 2], []⟩
def sg118 : Sig := ⟨[.bor], .sc [.agg [.i .i64 0, .s ⟨#[]⟩], .one (.b false)], [0, 2, 3, 4, 5, 6, 23], []⟩
def sg81 : Sig := ⟨[.ptr [none, none]], .fresh [[none, some (64, 9), none, some (90, 5), some (81, 5)]], [0, 2, 3, 4, 5, 6, 7, 8, 41, 42, 43, 67, 68, 69], [(1000006, [(192, 3, [90, 5])]), (1000015, [(192, 4, [81, 5])])]⟩
def sg65 : Sig := ⟨[.bor], .sc [.one (.b false)], [0, 2, 3, 4, 5, 6, 7, 8, 54], [(4, dr 0 43)]⟩
def sg141 : Sig := ⟨[.bor], .sc [.one (.b false)], [0, 2], []⟩
def sg130 : Sig := ⟨[.bor], .sc [.one (.b false)], [0, 2, 3, 5, 6, 7, 19], []⟩
def sg142 : Sig := ⟨[.bor], .sc [.one (.b false)], [0, 2, 3, 5, 6, 7, 13], []⟩
def sg132 : Sig := ⟨[.rptr 2, .bor], .ep [.i .i64 0, .i .i64 0, .i .i64 0, .i .i64 0, .i .i64 0, .s ⟨#[]⟩, .l [], .i .i64 0, .i .i64 0], [0, 1, 4, 5, 10, 11, 12, 23], []⟩
def sg131 : Sig := ⟨[.rptr 2, .bor], .sc [.one (.b false)], [0, 1, 3, 4, 5, 6, 8, 9, 10, 11, 46], [(4, dr 0 32)]⟩
def sg99 : Sig := ⟨[.rptr 2, .bor], .sc [.one (.b false)], [0, 1, 3, 4, 20, 39, 41, 42, 48, 58], []⟩
def sg133 : Sig := ⟨[.bor, .bor], .sc [.one (.i .i64 0)], [0, 1, 4, 5, 7, 8, 9, 16], []⟩
def sg101 : Sig := ⟨[.bor, .bor], .sc [.one (.b false)], [0, 1, 4], []⟩
def sg100 : Sig := ⟨[.rptr 2, .bor], .fresh [[some (3, 1)]], [0, 1, 4, 5, 6, 7, 8, 10, 17, 27, 31, 32, 33, 34, 41], [(1000013, [(2880, 0, []), (3200, 0, [])])]⟩
def sg102 : Sig := ⟨[.rptr 2, .bor], .sc [.one (.i .i64 0)], [0, 1, 4, 5, 7, 9, 13, 14, 15, 16, 20, 21, 22, 23, 29], []⟩
def sg103 : Sig := ⟨[.rptr 2], .sc [.one (.i .i64 0)], [0, 2, 3, 5, 9, 10, 11, 12], []⟩
def sg135 : Sig := ⟨[.rptr 2, .bor], .sc [.one (.i .i64 0), .one (.i .i64 0)], [0, 1, 4, 5, 6, 7, 9, 10, 14, 15, 16, 17, 24], []⟩
def sg105 : Sig := ⟨[.rptr 2, .bor], .sc [.one (.b false)], [0, 1, 3, 4, 5, 6], []⟩
def sg134 : Sig := ⟨[.bor, .fnp 105 2], .sc [.one (.i .i64 0)], [0, 1, 4, 5, 7, 8, 9, 16], []⟩
def sg104 : Sig := ⟨[.bor, .fnp 105 2], .sc [.one (.b false)], [0, 1, 4], []⟩
def sg66 : Sig := ⟨[.bor], .sc [.one (.b false)], [0, 1, 2, 3, 4, 5, 7, 34, 36, 37, 38, 39, 70, 75, 76, 77, 78, 96], [(6, dr 0 28)]⟩
def sg25 : Sig := ⟨[.bor], .sc [.one (.b false)], [0, 1, 2, 3, 4, 6, 7, 8, 9, 50], [(4, dr 0 38)]⟩
def sg37 : Sig := ⟨[.bor], .fresh [[none, some (64, 9), none, some (90, 5), some (81, 5)], [none]], [0, 2, 3, 4, 5, 26], []⟩
def sg39 : Sig := ⟨[.bor], .fresh [[some (28, 5)], [none]], [0, 2, 3, 4, 5, 6, 7, 12, 13, 21, 37], []⟩
def sg143 : Sig := ⟨[.bor, .bor], .sc [.one (.b false)], [0, 1, 2, 3, 4, 9, 14], []⟩
def sg137 : Sig := ⟨[.bor, .bor], .sc [.one (.b false)], [0, 1, 4, 5, 10, 14, 26], [(6, dr 0 10)]⟩
def sg120 : Sig := ⟨[.bor, .bor], .sc [.one (.b false)], [0, 1, 2, 3, 4, 9, 14, 19, 24, 29, 34, 40, 45, 50], []⟩
def sg83 : Sig := ⟨[.bor, .bor], .sc [.one (.b false)], [0, 1, 4, 5, 10, 14, 26], [(6, dr 0 10)]⟩
def sg42 : Sig := ⟨[.bor, .bor], .sc [.one (.b false)], [0, 1, 2, 3, 4, 9, 15], []⟩
def sg84 : Sig := ⟨[.bor, .bor], .sc [.one (.b false)], [0, 1, 2, 3, 4, 9, 14, 19, 24, 29], []⟩
def sg43 : Sig := ⟨[.bor, .bor], .sc [.one (.b false)], [0, 1, 4, 5, 10, 14, 26], [(6, dr 0 10)]⟩
def sg121 : Sig := ⟨[.bor, .bor], .sc [.one (.b false)], [0, 1, 2, 3, 4, 9, 14], []⟩
def sg85 : Sig := ⟨[.bor, .bor], .sc [.one (.b false)], [0, 1, 2, 3, 4, 9, 14, 19, 25], []⟩
def sg44 : Sig := ⟨[.bor, .bor], .sc [.one (.b false)], [0, 1, 4, 5, 10, 14, 26], [(6, dr 0 10)]⟩
def sg14 : Sig := ⟨[.bor, .bor], .sc [.one (.b false)], [0, 1, 2, 3, 4, 10, 15, 21, 27], []⟩
def sg19 : Sig := ⟨[.bor, .bor], .sc [.one (.b false)], [0, 1, 4, 5, 10, 14, 26], [(6, dr 0 10)]⟩
def sg86 : Sig := ⟨[.bor], .sc [.one (.s ⟨#[]⟩)], [0, 2, 3, 5, 7], []⟩
def sg87 : Sig := ⟨[.io [some (999999999, 2)], .bor], .sc [.one (.i .i64 0)], [0, 1, 4, 5, 9], []⟩
def sg51 : Sig := ⟨[.io [some (999999999, 9)], .bor], .sc [.one (.i .i64 0)], [0, 1, 4, 5, 9], []⟩
def sg46 : Sig := ⟨[.io [some (999999999, 5)], .bor], .sc [.one (.i .i64 0)], [0, 1, 4, 5, 9], []⟩
def sg47 : Sig := ⟨[.io [some (999999999, 5)], .bor], .sc [.one (.i .i64 0)], [0, 1, 4, 5, 9], []⟩
def sg20 : Sig := ⟨[.io [some (999999999, 5)], .bor], .sc [.one (.i .i64 0)], [0, 1, 4, 5, 9], []⟩
def sg88 : Sig := ⟨[.bor, .bor], .sc [.one (.i .i64 0)], [0, 1, 4, 5, 9, 19, 28], [(4, dr 0 8)]⟩
def sg52 : Sig := ⟨[.bor, .bor], .sc [.one (.i .i64 0)], [0, 1, 4, 5, 9, 18, 27, 36, 45, 54, 64, 75, 82, 91], [(19, dr 0 8)]⟩
def sg49 : Sig := ⟨[.bor, .bor], .sc [.one (.i .i64 0)], [0, 1, 4, 5, 9, 18, 27, 36, 45, 54], []⟩
def sg50 : Sig := ⟨[.bor, .bor], .sc [.one (.i .i64 0)], [0, 1, 4, 5, 9, 18, 27, 36, 46, 57], [(16, dr 0 9)]⟩
def sg21 : Sig := ⟨[.bor, .bor], .sc [.one (.i .i64 0)], [0, 1, 4, 5, 9, 19, 31, 38, 49, 58], []⟩
def sg11 : Sig := ⟨[.bor], .sc [.one (.b false)], [0, 2, 3, 4, 5, 6, 7, 8, 9, 10, 13, 32, 40, 43, 57, 62, 65], []⟩
def sig : Nat → Sig := lkF ⟨[], .fresh [], [], []⟩ [(57, sg57), (69, sg69), (113, sg113), (78, sg78), (77, sg77), (114, sg114), (139, sg139), (124, sg124), (125, sg125), (126, sg126), (91, sg91), (92, sg92), (93, sg93), (94, sg94), (127, sg127), (95, sg95), (56, sg56), (67, sg67), (68, sg68), (79, sg79), (59, sg59), (70, sg70), (80, sg80), (58, sg58), (23, sg23), (30, sg30), (36, sg36), (27, sg27), (32, sg32), (38, sg38), (136, sg136), (116, sg116), (119, sg119), (82, sg82), (117, sg117), (115, sg115), (63, sg63), (64, sg64), (118, sg118), (81, sg81), (65, sg65), (141, sg141), (130, sg130), (142, sg142), (132, sg132), (131, sg131), (99, sg99), (133, sg133), (101, sg101), (100, sg100), (102, sg102), (103, sg103), (135, sg135), (105, sg105), (134, sg134), (104, sg104), (66, sg66), (25, sg25), (37, sg37), (39, sg39), (143, sg143), (137, sg137), (120, sg120), (83, sg83), (42, sg42), (84, sg84), (43, sg43), (121, sg121), (85, sg85), (44, sg44), (14, sg14), (19, sg19), (86, sg86), (87, sg87), (51, sg51), (46, sg46), (47, sg47), (20, sg20), (88, sg88), (52, sg52), (49, sg49), (50, sg50), (21, sg21), (11, sg11)]
def dep : Nat → Nat := lkF 0 [(57, 1), (69, 2), (113, 3), (78, 4), (77, 5), (114, 6), (139, 1), (124, 2), (125, 2), (126, 1), (91, 3), (92, 2), (93, 1), (94, 1), (127, 3), (95, 4), (56, 5), (67, 3), (68, 6), (79, 7), (59, 2), (70, 3), (80, 5), (58, 2), (23, 6), (30, 7), (36, 8), (27, 7), (32, 8), (38, 9), (136, 1), (116, 2), (119, 1), (82, 3), (117, 3), (115, 4), (63, 1), (64, 2), (118, 3), (81, 5), (65, 2), (141, 1), (130, 2), (142, 2), (132, 1), (131, 3), (99, 4), (133, 1), (101, 2), (100, 3), (102, 1), (103, 1), (135, 4), (105, 5), (134, 6), (104, 7), (66, 8), (25, 9), (37, 10), (39, 11), (143, 1), (137, 2), (120, 3), (83, 4), (42, 5), (84, 1), (43, 2), (121, 1), (85, 2), (44, 3), (14, 6), (19, 7), (86, 1), (87, 2), (51, 3), (46, 1), (47, 2), (20, 4), (88, 2), (52, 3), (49, 1), (50, 2), (21, 4), (11, 12)]
def gT : List (Nat × (List DV → Bool × List DV × List (List D))) := [(57, th57), (69, th69), (113, th113), (78, th78), (77, th77), (114, th114), (139, th139), (124, th124), (125, th125), (126, th126), (91, th91), (92, th92), (93, th93), (94, th94), (127, th127), (95, th95), (56, th56), (67, th67), (68, th68), (79, th79), (59, th59), (70, th70), (80, th80), (58, th58), (23, th23), (30, th30), (36, th36), (27, th27), (32, th32), (38, th38), (136, th136), (116, th116), (119, th119), (82, th82), (117, th117), (115, th115), (63, th63), (64, th64), (118, th118), (81, th81), (65, th65), (141, th141), (130, th130), (142, th142), (132, th132), (131, th131), (99, th99), (133, th133), (101, th101), (100, th100), (102, th102), (103, th103), (135, th135), (105, th105), (134, th134), (104, th104), (66, th66), (25, th25), (37, th37), (39, th39), (143, th143), (137, th137), (120, th120), (83, th83), (42, th42), (84, th84), (43, th43), (121, th121), (85, th85), (44, th44), (14, th14), (19, th19), (86, th86), (87, th87), (51, th51), (46, th46), (47, th47), (20, th20), (88, th88), (52, th52), (49, th49), (50, th50), (21, th21), (11, th11)]
def G : Nat → List DV → Bool × List DV × List (List D) := lkF (fun _ => (false, [], [])) gT
noncomputable def mkC (f : Nat) : Ctx := ⟨Try.prog, sig, Gd G dep (dep f), (sig f).keep, (sig f).ord⟩
noncomputable def gc (f : Func) : Code := f.body.getD .skip
noncomputable def bd (c : Code) (n : Nat) : Code := match nodeAt c n with | some (.loop a) => a | _ => .skip
def Rp (tw : List Vr → Rs) (C : Ctx) (S : LT) (fn : Func) (sg : Sig) (c : Code) (A : List TA) : Prop := ∀ w, tw w = bodyK C (lkS S) fn sg c (fillAs A 0 w)
theorem okM {Y : Type} {f : Nat} {fn : Func} {S : LT} {A : List TA} {v : Y → List Vr → Rs} {a t u : Y} {c : Code} {zr : List DV} {zo : List (List D)} (r : Rp (v a) (mkC f) S fn (sig f) c A) (hf : Try.prog.funcs[f]? = some fn) (hb : fn.body = some c) (hs : AllS (mkC f) KK c 0 S) (e : a = t) (hu : u = t) : OkS sig (Gd G dep (dep f)) f (fun xs => gOf zr zo (argsT A (v u) xs)) := fun xs q h => body_ok hf hb A (v a) (sums_of hs) r (by rw [e, ← hu]; exact opt_gOf h)
def C57 := mkC 57
def c57 := gc Try.f57
def ST57 : LT := []
theorem r57 : Rp (v57 t57) C57 ST57 Try.f57 (sig 57) c57 A57 := fun w => by kernel_rfl
theorem ok57 : OkS sig (Gd G dep (dep 57)) 57 th57 := okM (v := v57) r57 Try.func57 rfl trivial te57 ue57
def C69 := mkC 69
def c69 := gc Try.f69
def T69o1 : TSt := ⟨[dI, dS, .own 448, dB, .any], [(448, .row 5 1)]⟩
def X69o1e1 : TSt := ⟨[dI, dS, .own 448, dB, dB], [(448, .row 5 1)]⟩
def L69o1 (m : Nat) (w : List Vr) (K : KT) : Rs := la69o1 tu57 (vS w 1) (vB w 2) (fun n16 b17 l18 => K (.exit 0) (fillS X69o1e1 [.i n16, jS w 1, jB w 2, .b b17, .l l18])) m (vI w 0) (vV w 3) (vL w 4)
def ST69 : LT := [(1, sumT T69o1 (L69o1 KK))]
def b69o1 := bd c69 1
theorem q69o1 : Qp L69o1 C69 ST69 b69o1 2 T69o1 := fun m w K => by kernel_rfl
theorem o69o1 : SumOk C69 KK (sumT T69o1 (L69o1 KK)) (.loop b69o1) := loop_ok T69o1 L69o1 (sums_of (t := ST69) ⟨fun _ _ h => absurd h (by decide), trivial⟩) (fun _ _ => rfl) q69o1
theorem r69 : Rp (v69 (ta69 tu57)) C69 ST69 Try.f69 (sig 69) c69 A69 := fun w => by kernel_rfl
theorem ok69 : OkS sig (Gd G dep (dep 69)) 69 th69 := okM (v := v69) r69 Try.func69 rfl ⟨sum_in (c' := .loop b69o1) (by kernel_rfl) (o69o1), trivial⟩ te69 ue69
def C113 := mkC 113
def c113 := gc Try.f113
def T113o2 : TSt := ⟨[dS, dI, dI, dI, dI, dI, dB, .any, .any], []⟩
def X113o2e1 : TSt := ⟨[dS, dI, dI, dI, dI, dI, dB, dB, .any], []⟩
def L113o2 (m : Nat) (w : List Vr) (K : KT) : Rs := la113o2 tu69 (vS w 0) (vI w 1) (vI w 2) (vI w 3) (vB w 6) (fun n71 n72 b73 v74 => K (.exit 2) (fillS X113o2e1 [jS w 0, jI w 1, jI w 2, jI w 3, .i n71, .i n72, jB w 6, .b b73, .v v74])) m (vI w 4) (vI w 5) (vV w 7) (vV w 8)
def T113o0 : TSt := ⟨[dS, dI, dI, dI, .any, .any, .any, .any, .any], []⟩
def X113o0e1 : TSt := ⟨[dS, dI, dI, dI, dI, dI, dB, dB, dB], []⟩
def X113o0e2 : TSt := ⟨[dS, dI, dI, dI, .any, .any, dB, .any, .any], []⟩
def L113o0 (m : Nat) (w : List Vr) (K : KT) : Rs := la113o0 tu69 (vS w 0) (vI w 1) (vI w 2) (fun n88 n89 n90 b91 b92 b93 => K .ret (fillS X113o0e1 [jS w 0, .i n88, .i n89, .i n89, .i n88, .i n90, .b b91, .b b92, .b b93])) (fun n94 v95 v96 b97 v98 v99 => K (.exit 0) (fillS X113o0e2 [jS w 0, jI w 1, jI w 2, .i n94, .v v95, .v v96, .b b97, .v v98, .v v99])) m (vI w 3) (vV w 4) (vV w 5) (vV w 6) (vV w 7) (vV w 8)
def ST113 : LT := [(2, sumT T113o2 (L113o2 KK)), (0, sumT T113o0 (L113o0 KK))]
def b113o2 := bd c113 2
def b113o0 := bd c113 0
theorem q113o2 : Qp L113o2 C113 ST113 b113o2 3 T113o2 := fun m w K => by kernel_rfl
theorem o113o2 : SumOk C113 KK (sumT T113o2 (L113o2 KK)) (.loop b113o2) := loop_ok T113o2 L113o2 (sums_of (t := ST113) ⟨fun _ _ h => absurd h (by decide), fun _ _ h => absurd h (by decide), trivial⟩) (fun _ _ => rfl) q113o2
theorem q113o0 : Qp L113o0 C113 ST113 b113o0 1 T113o0 := fun m w K => by kernel_rfl
theorem o113o0 : SumOk C113 KK (sumT T113o0 (L113o0 KK)) (.loop b113o0) := loop_ok T113o0 L113o0 (sums_of (t := ST113) ⟨sum_in (c' := .loop b113o2) (by kernel_rfl) (o113o2), fun _ _ h => absurd h (by decide), trivial⟩) (fun _ _ => rfl) q113o0
theorem r113 : Rp (v113 (ta113 tu69)) C113 ST113 Try.f113 (sig 113) c113 A113 := fun w => by kernel_rfl
theorem ok113 : OkS sig (Gd G dep (dep 113)) 113 th113 := okM (v := v113) r113 Try.func113 rfl ⟨sum_in (c' := .loop b113o2) (by kernel_rfl) (o113o2), sum_in (c' := .loop b113o0) (by kernel_rfl) (o113o0), trivial⟩ te113 ue113
def C78 := mkC 78
def c78 := gc Try.f78
def T78o0 : TSt := ⟨[dS, dI, dI, .nils, dI, .own 768, dI, .any, .any, .any, .any, .any], [(768, .row 3 1)]⟩
def X78o0e1 : TSt := ⟨[dS, dI, dI, .own 768, dI, .own 768, dI, .any, .any, dB, dB, .any], [(768, .row 3 1)]⟩
def X78o0e2 : TSt := ⟨[dS, dI, dI, .own 768, dI, .own 768, dI, dI, dI, dB, dB, dB], [(768, .row 3 1)]⟩
def X78o0e3 : TSt := ⟨[dS, dI, dI, .nils, dI, .own 768, dI, .any, .any, dB, .any, .any], [(768, .row 3 1)]⟩
def L78o0 (m : Nat) (w : List Vr) (K : KT) : Rs := la78o0 tu113 (vS w 0) (vI w 2) (vI w 3) (fun n32 n33 v34 v35 b36 b37 v38 l39 => K .ret (fillS X78o0e1 [jS w 0, .i n32, jI w 2, .i ((-1 : Int)), .i n33, .v v34, .v v35, .b b36, .b b37, .v v38, .l l39])) (fun n40 n41 n42 n43 b44 b45 b46 l47 => K .ret (fillS X78o0e2 [jS w 0, .i n40, jI w 2, .i ((-1 : Int)), .i n41, .i n42, .i n43, .b b44, .b b45, .b b46, .l l47])) (fun n48 n49 v50 v51 b52 v53 v54 l55 => K (.exit 0) (fillS X78o0e3 [jS w 0, .i n48, jI w 2, jI w 3, .i n49, .v v50, .v v51, .b b52, .v v53, .v v54, .l l55])) m (vI w 1) (vI w 4) (vV w 5) (vV w 6) (vV w 7) (vV w 8) (vV w 9) (vL w 10)
def ST78 : LT := [(0, sumT T78o0 (L78o0 KK))]
def b78o0 := bd c78 0
theorem q78o0 : Qp L78o0 C78 ST78 b78o0 1 T78o0 := fun m w K => by kernel_rfl
theorem o78o0 : SumOk C78 KK (sumT T78o0 (L78o0 KK)) (.loop b78o0) := loop_ok T78o0 L78o0 (sums_of (t := ST78) ⟨fun _ _ h => absurd h (by decide), trivial⟩) (fun _ _ => rfl) q78o0
theorem r78 : Rp (v78 (ta78 tu113)) C78 ST78 Try.f78 (sig 78) c78 A78 := fun w => by kernel_rfl
theorem ok78 : OkS sig (Gd G dep (dep 78)) 78 th78 := okM (v := v78) r78 Try.func78 rfl ⟨sum_in (c' := .loop b78o0) (by kernel_rfl) (o78o0), trivial⟩ te78 ue78
def C77 := mkC 77
def c77 := gc Try.f77
def ST77 : LT := []
theorem r77 : Rp (v77 (ta77 tu78)) C77 ST77 Try.f77 (sig 77) c77 A77 := fun w => by kernel_rfl
theorem ok77 : OkS sig (Gd G dep (dep 77)) 77 th77 := okM (v := v77) r77 Try.func77 rfl trivial te77 ue77
def C114 := mkC 114
def c114 := gc Try.f114
def T114o3 : TSt := ⟨[dS, dI, .ptr 256 0, dI, .own 1152, dI, .ptr 512 0, dS, .own 3840, dI, .any, .any, .undef, dB, dB, dB, .any, .any], [(256, .box [dI, dI, dI, dI, dI, dS, .nils, dI, dI]), (512, bx8), (1152, .row 3 1), (3840, .row 3 1), (32775, .row 129 2)]⟩
def X114o3e1 : TSt := ⟨[dS, dI, .ptr 256 0, dI, .own 1152, dI, .ptr 512 0, dS, .own 3840, dI, dS, dI, .own 5632, dB, dB, dB, dB, dB], [(256, bx7), (512, bx7), (1152, .row 3 1), (3840, .row 3 1), (5632, .row 3 1), (16391, .row 129 2)]⟩
def X114o3e2 : TSt := ⟨[dS, dI, .ptr 256 0, dI, .own 1152, dI, .ptr 512 0, dS, .own 3840, dI, .any, .any, .undef, dB, dB, dB, dB, .any], [(256, .box [dI, dI, dI, dI, dI, dS, .nils, dI, dI]), (512, bx8), (1152, .row 3 1), (3840, .row 3 1), (32775, .row 129 2)]⟩
def L114o3 (m : Nat) (w : List Vr) (K : KT) : Rs := la114o3 tu77 tu78 (vS w 0) (vI w 1) (vI w 2) (vS w 4) (vB w 8) (vB w 9) (vB w 10) (vI w 13) (vI w 14) (vI w 15) (vI w 16) (vI w 17) (vS w 18) (vI w 19) (vI w 20) (vI w 21) (vI w 22) (vI w 23) (vI w 24) (vI w 25) (vS w 26) (vI w 27) (vI w 28) (vL w 29) (vL w 30) (fun n95 n96 s97 n98 b99 b100 l101 l102 => K .ret (fillS X114o3e1 [jS w 0, jI w 1, .i ((-1 : Int)), .i n95, jS w 4, .i n96, .s s97, .i n98, jB w 8, jB w 9, jB w 10, .b b99, .b b100, jI w 21, jI w 22, jI w 23, jI w 24, jI w 25, jS w 26, jI w 27, jI w 28, jI w 21, jI w 22, jI w 23, jI w 24, jI w 25, jS w 26, jI w 27, jI w 28, jL w 29, jL w 30, .l l101, .l l102])) (fun n103 n104 v105 v106 b107 v108 l109 => K (.exit 0) (fillS X114o3e2 [jS w 0, jI w 1, jI w 2, .i n103, jS w 4, .i n104, .v v105, .v v106, jB w 8, jB w 9, jB w 10, .b b107, .v v108, jI w 13, jI w 14, jI w 15, jI w 16, jI w 17, jS w 18, jI w 19, jI w 20, jI w 21, jI w 22, jI w 23, jI w 24, jI w 25, jS w 26, jI w 27, jI w 28, jL w 29, jL w 30, .l l109])) m (vI w 3) (vI w 5) (vV w 6) (vV w 7) (vV w 11) (vV w 12) (vL w 31)
def ST114 : LT := [(3, sumT T114o3 (L114o3 KK))]
def b114o3 := bd c114 3
theorem q114o3 : Qp L114o3 C114 ST114 b114o3 4 T114o3 := fun m w K => by kernel_rfl
theorem o114o3 : SumOk C114 KK (sumT T114o3 (L114o3 KK)) (.loop b114o3) := loop_ok T114o3 L114o3 (sums_of (t := ST114) ⟨fun _ _ h => absurd h (by decide), trivial⟩) (fun _ _ => rfl) q114o3
theorem r114 : Rp (v114 (ta114 tu77 tu78)) C114 ST114 Try.f114 (sig 114) c114 A114 := fun w => by kernel_rfl
theorem ok114 : OkS sig (Gd G dep (dep 114)) 114 th114 := okM (v := v114) r114 Try.func114 rfl ⟨sum_in (c' := .loop b114o3) (by kernel_rfl) (o114o3), trivial⟩ te114 ue114
def C139 := mkC 139
def c139 := gc Try.f139
def ST139 : LT := []
theorem r139 : Rp (v139 t139) C139 ST139 Try.f139 (sig 139) c139 A139 := fun w => by kernel_rfl
theorem ok139 : OkS sig (Gd G dep (dep 139)) 139 th139 := okM (v := v139) r139 Try.func139 rfl trivial te139 ue139
def C124 := mkC 124
def c124 := gc Try.f124
def T124o1 : TSt := ⟨[dS, dB, dI, dB, .any, .any], []⟩
def X124o1e1 : TSt := ⟨[dS, dB, dI, dB, dB, dB], []⟩
def X124o1e2 : TSt := ⟨[dS, dB, dI, dB, dB, .any], []⟩
def L124o1 (m : Nat) (w : List Vr) (K : KT) : Rs := la124o1 tu57 tu139 (vS w 0) (vB w 1) (vB w 3) (fun n18 b19 b20 => K .ret (fillS X124o1e1 [jS w 0, .b (false), .i n18, jB w 3, .b b19, .b b20])) (fun n21 b22 v23 => K (.exit 0) (fillS X124o1e2 [jS w 0, jB w 1, .i n21, jB w 3, .b b22, .v v23])) m (vI w 2) (vV w 4) (vV w 5)
def ST124 : LT := [(1, sumT T124o1 (L124o1 KK))]
def b124o1 := bd c124 1
theorem q124o1 : Qp L124o1 C124 ST124 b124o1 2 T124o1 := fun m w K => by kernel_rfl
theorem o124o1 : SumOk C124 KK (sumT T124o1 (L124o1 KK)) (.loop b124o1) := loop_ok T124o1 L124o1 (sums_of (t := ST124) ⟨fun _ _ h => absurd h (by decide), trivial⟩) (fun _ _ => rfl) q124o1
theorem r124 : Rp (v124 (ta124 tu57 tu139)) C124 ST124 Try.f124 (sig 124) c124 A124 := fun w => by kernel_rfl
theorem ok124 : OkS sig (Gd G dep (dep 124)) 124 th124 := okM (v := v124) r124 Try.func124 rfl ⟨sum_in (c' := .loop b124o1) (by kernel_rfl) (o124o1), trivial⟩ te124 ue124
def C125 := mkC 125
def c125 := gc Try.f125
def T125o1 : TSt := ⟨[dS, dB, dI, dB, .any, .any], []⟩
def X125o1e1 : TSt := ⟨[dS, dB, dI, dB, dB, dB], []⟩
def X125o1e2 : TSt := ⟨[dS, dB, dI, dB, dB, .any], []⟩
def L125o1 (m : Nat) (w : List Vr) (K : KT) : Rs := la125o1 tu57 tu139 (vS w 0) (vB w 1) (vB w 3) (fun n18 b19 b20 => K .ret (fillS X125o1e1 [jS w 0, .b (false), .i n18, jB w 3, .b b19, .b b20])) (fun n21 b22 v23 => K (.exit 0) (fillS X125o1e2 [jS w 0, jB w 1, .i n21, jB w 3, .b b22, .v v23])) m (vI w 2) (vV w 4) (vV w 5)
def ST125 : LT := [(1, sumT T125o1 (L125o1 KK))]
def b125o1 := bd c125 1
theorem q125o1 : Qp L125o1 C125 ST125 b125o1 2 T125o1 := fun m w K => by kernel_rfl
theorem o125o1 : SumOk C125 KK (sumT T125o1 (L125o1 KK)) (.loop b125o1) := loop_ok T125o1 L125o1 (sums_of (t := ST125) ⟨fun _ _ h => absurd h (by decide), trivial⟩) (fun _ _ => rfl) q125o1
theorem r125 : Rp (v125 (ta125 tu57 tu139)) C125 ST125 Try.f125 (sig 125) c125 A125 := fun w => by kernel_rfl
theorem ok125 : OkS sig (Gd G dep (dep 125)) 125 th125 := okM (v := v125) r125 Try.func125 rfl ⟨sum_in (c' := .loop b125o1) (by kernel_rfl) (o125o1), trivial⟩ te125 ue125
def C126 := mkC 126
def c126 := gc Try.f126
def T126o0 : TSt := ⟨[ag2, dI, .ptr 128 0, dI, dI, .any, .any], [bn1]⟩
def X126o0e1 : TSt := ⟨[ag2, dI, .ptr 128 0, dI, dI, dB, dB], [bn1]⟩
def X126o0e2 : TSt := ⟨[ag2, dI, .ptr 128 0, dI, dI, dB, .any], [bn1]⟩
def L126o0 (m : Nat) (w : List Vr) (K : KT) : Rs := l126o0 (vI w 0) (vL w 1) (vI w 2) (vI w 3) (vI w 7) (vL w 8) (fun n29 b30 b31 => K .ret (fillS X126o0e1 [jI w 0, jL w 1, jI w 2, .i n29, .i n29, .b b30, .b b31, jI w 7, jL w 8])) (fun n32 b33 v34 => K (.exit 0) (fillS X126o0e2 [jI w 0, jL w 1, jI w 2, jI w 3, .i n32, .b b33, .v v34, jI w 7, jL w 8])) m (vI w 4) (vV w 5) (vV w 6)
def ST126 : LT := [(0, sumT T126o0 (L126o0 KK))]
def b126o0 := bd c126 0
theorem q126o0 : Qp L126o0 C126 ST126 b126o0 1 T126o0 := fun m w K => by kernel_rfl
theorem o126o0 : SumOk C126 KK (sumT T126o0 (L126o0 KK)) (.loop b126o0) := loop_ok T126o0 L126o0 (sums_of (t := ST126) ⟨fun _ _ h => absurd h (by decide), trivial⟩) (fun _ _ => rfl) q126o0
theorem r126 : Rp (v126 t126) C126 ST126 Try.f126 (sig 126) c126 A126 := fun w => by kernel_rfl
theorem ok126 : OkS sig (Gd G dep (dep 126)) 126 th126 := okM (v := v126) r126 Try.func126 rfl ⟨sum_in (c' := .loop b126o0) (by kernel_rfl) (o126o0), trivial⟩ te126 ue126
def C91 := mkC 91
def c91 := gc Try.f91
def T91o5 : TSt := ⟨[ag2, ag0, .ptr 128 0, .ptr 192 0, dB, dB, dI, .undef, dB, dI, dB, dB, dB, dB, .any, .any], [bn1, (192, bx9)]⟩
def X91o5e1 : TSt := ⟨[ag2, ag0, .ptr 128 0, .ptr 192 0, dB, dB, dI, .ptr 448 0, dB, dI, dB, dB, dB, dB, dB, dB], [bn1, (192, bx9), (448, .box [dS, dI])]⟩
def X91o5e2 : TSt := ⟨[ag2, ag0, .ptr 128 0, .ptr 192 0, dB, dB, dI, .undef, dB, dI, dB, dB, dB, dB, dB, .any], [bn1, (192, bx9)]⟩
def L91o5 (m : Nat) (w : List Vr) (K : KT) : Rs := la91o5 tu57 tu124 tu125 tu126 (vI w 0) (vL w 1) (vI w 2) (vI w 3) (vI w 4) (vI w 5) (vI w 6) (vS w 7) (vL w 8) (vI w 9) (vI w 10) (vB w 11) (vB w 12) (vB w 14) (vI w 15) (vB w 16) (vB w 17) (vB w 18) (vB w 19) (vI w 22) (vL w 23) (vI w 24) (vI w 25) (vI w 26) (vI w 27) (vI w 28) (vS w 29) (vL w 30) (vI w 31) (vI w 32) (fun n109 b110 b111 s112 n113 => K .ret (fillS X91o5e1 [jI w 0, jL w 1, jI w 2, jI w 3, jI w 4, jI w 5, jI w 6, jS w 7, jL w 8, jI w 9, jI w 10, .b (false), jB w 12, .i n109, jB w 14, jI w 15, jB w 16, jB w 17, jB w 18, jB w 19, .b b110, .b b111, jI w 22, jL w 23, jI w 24, jI w 25, jI w 26, jI w 27, jI w 28, jS w 29, jL w 30, jI w 31, jI w 32, .s s112, .i n113])) (fun n114 b115 v116 => K (.exit 1) (fillS X91o5e2 [jI w 0, jL w 1, jI w 2, jI w 3, jI w 4, jI w 5, jI w 6, jS w 7, jL w 8, jI w 9, jI w 10, jB w 11, jB w 12, .i n114, jB w 14, jI w 15, jB w 16, jB w 17, jB w 18, jB w 19, .b b115, .v v116, jI w 22, jL w 23, jI w 24, jI w 25, jI w 26, jI w 27, jI w 28, jS w 29, jL w 30, jI w 31, jI w 32])) m (vI w 13) (vV w 20) (vV w 21)
def ST91 : LT := [(5, sumT T91o5 (L91o5 KK))]
def b91o5 := bd c91 5
theorem q91o5 : Qp L91o5 C91 ST91 b91o5 6 T91o5 := fun m w K => by kernel_rfl
theorem o91o5 : SumOk C91 KK (sumT T91o5 (L91o5 KK)) (.loop b91o5) := loop_ok T91o5 L91o5 (sums_of (t := ST91) ⟨fun _ _ h => absurd h (by decide), trivial⟩) (fun _ _ => rfl) q91o5
theorem r91 : Rp (v91 (ta91 tu57 tu124 tu125 tu126)) C91 ST91 Try.f91 (sig 91) c91 A91 := fun w => by kernel_rfl
theorem ok91 : OkS sig (Gd G dep (dep 91)) 91 th91 := okM (v := v91) r91 Try.func91 rfl ⟨sum_in (c' := .loop b91o5) (by kernel_rfl) (o91o5), trivial⟩ te91 ue91
def C92 := mkC 92
def c92 := gc Try.f92
def T92o6 : TSt := ⟨[ag2, dI, .ptr 128 0, .nils, .own 960, .own 1216, dI, dI, dI, dI, .any, dB, dB, dB, dB, .any, .any], [bn1, (960, .row 4 1), (1216, .row 4 1)]⟩
def X92o6e1 : TSt := ⟨[ag2, dI, .ptr 128 0, .nils, .own 960, .own 1216, dI, dI, dI, dI, .any, dB, dB, dB, dB, dB, .any], [bn1, (960, .row 4 1), (1216, .row 4 1)]⟩
def L92o6 (m : Nat) (w : List Vr) (K : KT) : Rs := la92o6 tu126 (vI w 0) (vL w 1) (vI w 2) (vI w 3) (vI w 4) (vI w 5) (vB w 8) (vB w 9) (vB w 10) (vB w 11) (vI w 14) (vL w 15) (fun n417 v418 b419 v420 l421 l422 => K (.exit 4) (fillS X92o6e1 [jI w 0, jL w 1, jI w 2, jI w 3, jI w 4, jI w 5, .i n417, .v v418, jB w 8, jB w 9, jB w 10, jB w 11, .b b419, .v v420, jI w 14, jL w 15, .l l421, .l l422])) m (vI w 6) (vV w 7) (vV w 12) (vV w 13) (vL w 16) (vL w 17)
def T92o3 : TSt := ⟨[ag2, dI, .ptr 128 0, .nils, .own 960, .own 1216, dI, dI, dI, .any, .any, dB, dB, .any, .any, .any, .any], [bn1, (960, .row 4 1), (1216, .row 4 1)]⟩
def X92o3e1 : TSt := ⟨[ag2, dI, .ptr 128 0, .nils, .own 960, .own 1216, dI, dI, dI, .any, .any, dB, dB, dB, .any, .any, .any], [bn1, (960, .row 4 1), (1216, .row 4 1)]⟩
def L92o3 (m : Nat) (w : List Vr) (K : KT) : Rs := la92o3 tu126 (vI w 0) (vL w 1) (vI w 2) (vI w 3) (vI w 4) (vB w 8) (vB w 9) (vI w 14) (vL w 15) (fun n465 v466 v467 b468 v469 v470 v471 l472 l473 => K (.exit 2) (fillS X92o3e1 [jI w 0, jL w 1, jI w 2, jI w 3, jI w 4, .i n465, .v v466, .v v467, jB w 8, jB w 9, .b b468, .v v469, .v v470, .v v471, jI w 14, jL w 15, .l l472, .l l473])) m (vI w 5) (vV w 6) (vV w 7) (vV w 10) (vV w 11) (vV w 12) (vV w 13) (vL w 16) (vL w 17)
def T92o1 : TSt := ⟨[ag2, dI, .ptr 128 0, .nils, .own 960, .own 1216, dI, dI, .any, .any, .any, dB, .any, .any, .any, .any, .any], [bn1, (960, .row 4 1), (1216, .row 4 1)]⟩
def X92o1e1 : TSt := ⟨[ag2, dI, .ptr 128 0, .nils, .own 960, .own 1216, dI, dI, .any, .any, .any, dB, dB, .any, .any, .any, .any], [bn1, (960, .row 4 1), (1216, .row 4 1)]⟩
def L92o1 (m : Nat) (w : List Vr) (K : KT) : Rs := la92o1 tu126 (vI w 0) (vL w 1) (vI w 2) (vI w 3) (vB w 8) (vI w 14) (vL w 15) (fun n501 v502 v503 v504 b505 v506 v507 v508 v509 l510 l511 => K (.exit 0) (fillS X92o1e1 [jI w 0, jL w 1, jI w 2, jI w 3, .i n501, .v v502, .v v503, .v v504, jB w 8, .b b505, .v v506, .v v507, .v v508, .v v509, jI w 14, jL w 15, .l l510, .l l511])) m (vI w 4) (vV w 5) (vV w 6) (vV w 7) (vV w 9) (vV w 10) (vV w 11) (vV w 12) (vV w 13) (vL w 16) (vL w 17)
def ST92 : LT := [(6, sumT T92o6 (L92o6 KK)), (3, sumT T92o3 (L92o3 KK)), (1, sumT T92o1 (L92o1 KK))]
def b92o6 := bd c92 6
def b92o3 := bd c92 3
def b92o1 := bd c92 1
theorem q92o6 : Qp L92o6 C92 ST92 b92o6 7 T92o6 := fun m w K => by kernel_rfl
theorem o92o6 : SumOk C92 KK (sumT T92o6 (L92o6 KK)) (.loop b92o6) := loop_ok T92o6 L92o6 (sums_of (t := ST92) ⟨fun _ _ h => absurd h (by decide), fun _ _ h => absurd h (by decide), fun _ _ h => absurd h (by decide), trivial⟩) (fun _ _ => rfl) q92o6
theorem q92o3 : Qp L92o3 C92 ST92 b92o3 4 T92o3 := fun m w K => by kernel_rfl
theorem o92o3 : SumOk C92 KK (sumT T92o3 (L92o3 KK)) (.loop b92o3) := loop_ok T92o3 L92o3 (sums_of (t := ST92) ⟨sum_in (c' := .loop b92o6) (by kernel_rfl) (o92o6), fun _ _ h => absurd h (by decide), fun _ _ h => absurd h (by decide), trivial⟩) (fun _ _ => rfl) q92o3
theorem q92o1 : Qp L92o1 C92 ST92 b92o1 2 T92o1 := fun m w K => by kernel_rfl
theorem o92o1 : SumOk C92 KK (sumT T92o1 (L92o1 KK)) (.loop b92o1) := loop_ok T92o1 L92o1 (sums_of (t := ST92) ⟨sum_in (c' := .loop b92o6) (by kernel_rfl) (o92o6), sum_in (c' := .loop b92o3) (by kernel_rfl) (o92o3), fun _ _ h => absurd h (by decide), trivial⟩) (fun _ _ => rfl) q92o1
theorem r92 : Rp (v92 (ta92 tu126)) C92 ST92 Try.f92 (sig 92) c92 A92 := fun w => by kernel_rfl
theorem ok92 : OkS sig (Gd G dep (dep 92)) 92 th92 := okM (v := v92) r92 Try.func92 rfl ⟨sum_in (c' := .loop b92o6) (by kernel_rfl) (o92o6), sum_in (c' := .loop b92o3) (by kernel_rfl) (o92o3), sum_in (c' := .loop b92o1) (by kernel_rfl) (o92o1), trivial⟩ te92 ue92
def C93 := mkC 93
def c93 := gc Try.f93
def T93o2 : TSt := ⟨[ag2, dI, .ptr 128 0, dI, dI, dI, dI, dB, .any, .any], [bn1]⟩
def X93o2e1 : TSt := ⟨[ag2, dI, .ptr 128 0, dI, dI, dI, dI, dB, dB, .any], [bn1]⟩
def L93o2 (m : Nat) (w : List Vr) (K : KT) : Rs := l93o2 (vI w 0) (vL w 1) (vI w 2) (vI w 3) (vI w 5) (vB w 7) (vI w 10) (vL w 11) (fun n106 n107 b108 v109 => K (.exit 2) (fillS X93o2e1 [jI w 0, jL w 1, jI w 2, jI w 3, .i n106, jI w 5, .i n107, jB w 7, .b b108, .v v109, jI w 10, jL w 11])) m (vI w 4) (vI w 6) (vV w 8) (vV w 9)
def T93o0 : TSt := ⟨[ag2, dI, .ptr 128 0, dI, dI, dI, .any, .any, .any, .any], [bn1]⟩
def X93o0e1 : TSt := ⟨[ag2, dI, .ptr 128 0, dI, dI, dI, .any, dB, .any, .any], [bn1]⟩
def L93o0 (m : Nat) (w : List Vr) (K : KT) : Rs := l93o0 (vI w 0) (vL w 1) (vI w 2) (vI w 3) (vI w 10) (vL w 11) (fun n126 n127 v128 b129 v130 v131 => K (.exit 0) (fillS X93o0e1 [jI w 0, jL w 1, jI w 2, jI w 3, .i n126, .i n127, .v v128, .b b129, .v v130, .v v131, jI w 10, jL w 11])) m (vI w 4) (vI w 5) (vV w 6) (vV w 7) (vV w 8) (vV w 9)
def ST93 : LT := [(2, sumT T93o2 (L93o2 KK)), (0, sumT T93o0 (L93o0 KK))]
def b93o2 := bd c93 2
def b93o0 := bd c93 0
theorem q93o2 : Qp L93o2 C93 ST93 b93o2 3 T93o2 := fun m w K => by kernel_rfl
theorem o93o2 : SumOk C93 KK (sumT T93o2 (L93o2 KK)) (.loop b93o2) := loop_ok T93o2 L93o2 (sums_of (t := ST93) ⟨fun _ _ h => absurd h (by decide), fun _ _ h => absurd h (by decide), trivial⟩) (fun _ _ => rfl) q93o2
theorem q93o0 : Qp L93o0 C93 ST93 b93o0 1 T93o0 := fun m w K => by kernel_rfl
theorem o93o0 : SumOk C93 KK (sumT T93o0 (L93o0 KK)) (.loop b93o0) := loop_ok T93o0 L93o0 (sums_of (t := ST93) ⟨sum_in (c' := .loop b93o2) (by kernel_rfl) (o93o2), fun _ _ h => absurd h (by decide), trivial⟩) (fun _ _ => rfl) q93o0
theorem r93 : Rp (v93 t93) C93 ST93 Try.f93 (sig 93) c93 A93 := fun w => by kernel_rfl
theorem ok93 : OkS sig (Gd G dep (dep 93)) 93 th93 := okM (v := v93) r93 Try.func93 rfl ⟨sum_in (c' := .loop b93o2) (by kernel_rfl) (o93o2), sum_in (c' := .loop b93o0) (by kernel_rfl) (o93o0), trivial⟩ te93 ue93
def C94 := mkC 94
def c94 := gc Try.f94
def T94o0 : TSt := ⟨[ag2, .ptr 64 0, dI, dI, dI, .any], [bn3]⟩
def X94o0e1 : TSt := ⟨[ag2, .ptr 64 0, dI, dI, dI, dB], [bn3]⟩
def L94o0 (m : Nat) (w : List Vr) (K : KT) : Rs := l94o0 (vI w 0) (vL w 1) (vI w 2) (vI w 6) (vL w 7) (fun n26 n27 b28 => K (.exit 0) (fillS X94o0e1 [jI w 0, jL w 1, jI w 2, .i n26, .i n27, .b b28, jI w 6, jL w 7])) m (vI w 3) (vI w 4) (vV w 5)
def ST94 : LT := [(0, sumT T94o0 (L94o0 KK))]
def b94o0 := bd c94 0
theorem q94o0 : Qp L94o0 C94 ST94 b94o0 1 T94o0 := fun m w K => by kernel_rfl
theorem o94o0 : SumOk C94 KK (sumT T94o0 (L94o0 KK)) (.loop b94o0) := loop_ok T94o0 L94o0 (sums_of (t := ST94) ⟨fun _ _ h => absurd h (by decide), trivial⟩) (fun _ _ => rfl) q94o0
theorem r94 : Rp (v94 t94) C94 ST94 Try.f94 (sig 94) c94 A94 := fun w => by kernel_rfl
theorem ok94 : OkS sig (Gd G dep (dep 94)) 94 th94 := okM (v := v94) r94 Try.func94 rfl ⟨sum_in (c' := .loop b94o0) (by kernel_rfl) (o94o0), trivial⟩ te94 ue94
def C127 := mkC 127
def c127 := gc Try.f127
def T127o0 : TSt := ⟨[ag2, dI, .ptr 128 0, dI, dI, .own 768, dI, dI, dI, .any, .any], [bn1, (768, .row 4 1)]⟩
def X127o0e1 : TSt := ⟨[ag2, dI, .ptr 128 0, dI, dI, .own 768, dI, dI, dI, dB, .any], [bn1, (768, .row 4 1)]⟩
def L127o0 (m : Nat) (w : List Vr) (K : KT) : Rs := la127o0 tu92 (vI w 0) (vL w 1) (vI w 2) (vI w 3) (vI w 4) (vI w 10) (vL w 11) (vL w 12) (fun n45 n46 n47 b48 v49 => K (.exit 0) (fillS X127o0e1 [jI w 0, jL w 1, jI w 2, jI w 3, jI w 4, .i n45, .i n46, .i n47, .b b48, .v v49, jI w 10, jL w 11, jL w 12])) m (vI w 5) (vI w 6) (vI w 7) (vV w 8) (vV w 9)
def ST127 : LT := [(0, sumT T127o0 (L127o0 KK))]
def b127o0 := bd c127 0
theorem q127o0 : Qp L127o0 C127 ST127 b127o0 1 T127o0 := fun m w K => by kernel_rfl
theorem o127o0 : SumOk C127 KK (sumT T127o0 (L127o0 KK)) (.loop b127o0) := loop_ok T127o0 L127o0 (sums_of (t := ST127) ⟨fun _ _ h => absurd h (by decide), trivial⟩) (fun _ _ => rfl) q127o0
theorem r127 : Rp (v127 (ta127 tu92)) C127 ST127 Try.f127 (sig 127) c127 A127 := fun w => by kernel_rfl
theorem ok127 : OkS sig (Gd G dep (dep 127)) 127 th127 := okM (v := v127) r127 Try.func127 rfl ⟨sum_in (c' := .loop b127o0) (by kernel_rfl) (o127o0), trivial⟩ te127 ue127
def C95 := mkC 95
def c95 := gc Try.f95
def T95o0 : TSt := ⟨[ag2, .ptr 64 0, dB, dI, .undef, .any, .any, .any, .any, .any], [bn3]⟩
def X95o0e1 : TSt := ⟨[ag2, .ptr 64 0, dB, dI, .ptr 256 0, dI, dI, dB, dB, dB], [bn3, (256, bx9)]⟩
def X95o0e2 : TSt := ⟨[ag2, .ptr 64 0, dB, dI, .undef, .any, .any, dB, .any, .any], [bn3]⟩
def L95o0 (m : Nat) (w : List Vr) (K : KT) : Rs := la95o0 tu127 (vI w 0) (vL w 1) (vB w 2) (vI w 9) (vL w 10) (fun n42 n43 n44 b45 b46 b47 n48 n49 n50 n51 n52 s53 l54 n55 n56 => K .ret (fillS X95o0e1 [jI w 0, jL w 1, .b (true), .i n42, .i n43, .i n44, .b b45, .b b46, .b b47, jI w 9, jL w 10, .i n48, .i n49, .i n50, .i n51, .i n52, .s s53, .l l54, .i n55, .i n56])) (fun n57 v58 v59 b60 v61 v62 => K (.exit 0) (fillS X95o0e2 [jI w 0, jL w 1, jB w 2, .i n57, .v v58, .v v59, .b b60, .v v61, .v v62, jI w 9, jL w 10])) m (vI w 3) (vV w 4) (vV w 5) (vV w 6) (vV w 7) (vV w 8)
def ST95 : LT := [(0, sumT T95o0 (L95o0 KK))]
def b95o0 := bd c95 0
theorem q95o0 : Qp L95o0 C95 ST95 b95o0 1 T95o0 := fun m w K => by kernel_rfl
theorem o95o0 : SumOk C95 KK (sumT T95o0 (L95o0 KK)) (.loop b95o0) := loop_ok T95o0 L95o0 (sums_of (t := ST95) ⟨fun _ _ h => absurd h (by decide), trivial⟩) (fun _ _ => rfl) q95o0
theorem r95 : Rp (v95 (ta95 tu127)) C95 ST95 Try.f95 (sig 95) c95 A95 := fun w => by kernel_rfl
theorem ok95 : OkS sig (Gd G dep (dep 95)) 95 th95 := okM (v := v95) r95 Try.func95 rfl ⟨sum_in (c' := .loop b95o0) (by kernel_rfl) (o95o0), trivial⟩ te95 ue95
def C56 := mkC 56
def c56 := gc Try.f56
def T56o4 : TSt := ⟨[ag2, .ptr 64 0, dB, dI, .undef, .own 4864, dI, dB, dB, .any, .any, .any], [bn3, (4864, .row 4 1)]⟩
def X56o4e1 : TSt := ⟨[ag2, .ptr 64 0, dB, dI, .undef, .own 4864, dI, dB, dB, .any, dB, dB], [bn3, (4864, .row 4 1)]⟩
def X56o4e2 : TSt := ⟨[ag2, .ptr 64 0, dB, dI, .undef, .own 4864, dI, dB, dB, .any, dB, .any], [bn3, (4864, .row 4 1)]⟩
def L56o4 (m : Nat) (w : List Vr) (K : KT) : Rs := la56o4 tu57 tu91 tu92 tu93 tu94 tu95 (vI w 0) (vL w 1) (vB w 2) (vI w 3) (vB w 5) (vB w 6) (vI w 10) (vL w 11) (vL w 12) (fun n95 v96 b97 b98 => K .ret (fillS X56o4e1 [jI w 0, jL w 1, .b (false), jI w 3, .i n95, jB w 5, jB w 6, .v v96, .b b97, .b b98, jI w 10, jL w 11, jL w 12])) (fun n99 v100 b101 v102 => K (.exit 2) (fillS X56o4e2 [jI w 0, jL w 1, jB w 2, jI w 3, .i n99, jB w 5, jB w 6, .v v100, .b b101, .v v102, jI w 10, jL w 11, jL w 12])) m (vI w 4) (vV w 7) (vV w 8) (vV w 9)
def T56o1 : TSt := ⟨[ag2, .ptr 64 0, dB, dI, .undef, .undef, .undef, dB, .any, .any, .undef, .undef], [bn3]⟩
def X56o1e1 : TSt := ⟨[ag2, .ptr 64 0, dB, dI, .ptr 256 0, .undef, .undef, dB, dB, dB, .undef, .undef], [bn3, (256, bx9)]⟩
def X56o1e2 : TSt := ⟨[ag2, .ptr 64 0, dB, dI, .undef, .undef, .undef, dB, dB, .any, .undef, .undef], [bn3]⟩
def L56o1 (m : Nat) (w : List Vr) (K : KT) : Rs := la56o1 tu57 tu91 tu92 tu93 tu94 tu95 (vI w 0) (vL w 1) (vB w 2) (vB w 4) (vI w 7) (vL w 8) (fun n28 b29 b30 n31 n32 n33 n34 n35 s36 l37 n38 n39 => K .ret (fillS X56o1e1 [jI w 0, jL w 1, .b (false), .i n28, jB w 4, .b b29, .b b30, jI w 7, jL w 8, .i n31, .i n32, .i n33, .i n34, .i n35, .s s36, .l l37, .i n38, .i n39])) (fun n40 b41 v42 => K (.exit 0) (fillS X56o1e2 [jI w 0, jL w 1, jB w 2, .i n40, jB w 4, .b b41, .v v42, jI w 7, jL w 8])) m (vI w 3) (vV w 5) (vV w 6)
def ST56 : LT := [(4, sumT T56o4 (L56o4 KK)), (1, sumT T56o1 (L56o1 KK))]
def b56o4 := bd c56 4
def b56o1 := bd c56 1
theorem q56o4 : Qp L56o4 C56 ST56 b56o4 5 T56o4 := fun m w K => by kernel_rfl
theorem o56o4 : SumOk C56 KK (sumT T56o4 (L56o4 KK)) (.loop b56o4) := loop_ok T56o4 L56o4 (sums_of (t := ST56) ⟨fun _ _ h => absurd h (by decide), fun _ _ h => absurd h (by decide), trivial⟩) (fun _ _ => rfl) q56o4
theorem q56o1 : Qp L56o1 C56 ST56 b56o1 2 T56o1 := fun m w K => by kernel_rfl
theorem o56o1 : SumOk C56 KK (sumT T56o1 (L56o1 KK)) (.loop b56o1) := loop_ok T56o1 L56o1 (sums_of (t := ST56) ⟨sum_out (by kernel_rfl), fun _ _ h => absurd h (by decide), trivial⟩) (fun _ _ => rfl) q56o1
theorem r56 : Rp (v56 (ta56 tu57 tu91 tu92 tu93 tu94 tu95)) C56 ST56 Try.f56 (sig 56) c56 A56 := fun w => by kernel_rfl
theorem ok56 : OkS sig (Gd G dep (dep 56)) 56 th56 := okM (v := v56) r56 Try.func56 rfl ⟨sum_in (c' := .loop b56o4) (by kernel_rfl) (o56o4), sum_in (c' := .loop b56o1) (by kernel_rfl) (o56o1), trivial⟩ te56 ue56
def C67 := mkC 67
def c67 := gc Try.f67
def ST67 : LT := []
theorem r67 : Rp (v67 (ta67 tu69)) C67 ST67 Try.f67 (sig 67) c67 A67 := fun w => by kernel_rfl
theorem ok67 : OkS sig (Gd G dep (dep 67)) 67 th67 := okM (v := v67) r67 Try.func67 rfl trivial te67 ue67
def C68 := mkC 68
def c68 := gc Try.f68
def T68o3 : TSt := ⟨[ag2, .ptr 64 0, dS, dS, dI, .ptr 320 0, dI, dB, dB, .any], [bn3, (320, bx9)]⟩
def X68o3e1 : TSt := ⟨[ag2, .ptr 64 0, dS, dS, dI, .ptr 320 0, dI, dB, dB, dB], [bn3, (320, bx9)]⟩
def L68o3 (m : Nat) (w : List Vr) (K : KT) : Rs := la68o3 tu56 tu67 tu69 (vI w 0) (vL w 1) (vS w 2) (vI w 4) (vB w 6) (vB w 7) (vI w 9) (vL w 10) (vI w 11) (vI w 12) (vI w 13) (vI w 14) (vI w 15) (vS w 16) (vL w 17) (vI w 18) (vI w 19) (fun s147 n148 b149 => K (.exit 2) (fillS X68o3e1 [jI w 0, jL w 1, jS w 2, .s s147, jI w 4, .i n148, jB w 6, jB w 7, .b b149, jI w 9, jL w 10, jI w 11, jI w 12, jI w 13, jI w 14, jI w 15, jS w 16, jL w 17, jI w 18, jI w 19])) m (vS w 3) (vI w 5) (vV w 8)
def T68o1 : TSt := ⟨[ag2, .ptr 64 0, dS, dS, dI, .undef, .any, dB, .any, .any], [bn3]⟩
def X68o1e1 : TSt := ⟨[ag2, .ptr 64 0, dS, dS, dI, .undef, .any, dB, dB, .any], [bn3]⟩
def L68o1 (m : Nat) (w : List Vr) (K : KT) : Rs := la68o1 tu56 tu67 tu69 (vI w 0) (vL w 1) (vS w 2) (vB w 6) (vI w 9) (vL w 10) (fun s164 n165 v166 b167 v168 => K (.exit 0) (fillS X68o1e1 [jI w 0, jL w 1, jS w 2, .s s164, .i n165, .v v166, jB w 6, .b b167, .v v168, jI w 9, jL w 10])) m (vS w 3) (vI w 4) (vV w 5) (vV w 7) (vV w 8)
def ST68 : LT := [(3, sumT T68o3 (L68o3 KK)), (1, sumT T68o1 (L68o1 KK))]
def b68o3 := bd c68 3
def b68o1 := bd c68 1
theorem q68o3 : Qp L68o3 C68 ST68 b68o3 4 T68o3 := fun m w K => by kernel_rfl
theorem o68o3 : SumOk C68 KK (sumT T68o3 (L68o3 KK)) (.loop b68o3) := loop_ok T68o3 L68o3 (sums_of (t := ST68) ⟨fun _ _ h => absurd h (by decide), fun _ _ h => absurd h (by decide), trivial⟩) (fun _ _ => rfl) q68o3
theorem q68o1 : Qp L68o1 C68 ST68 b68o1 2 T68o1 := fun m w K => by kernel_rfl
theorem o68o1 : SumOk C68 KK (sumT T68o1 (L68o1 KK)) (.loop b68o1) := loop_ok T68o1 L68o1 (sums_of (t := ST68) ⟨sum_in (c' := .loop b68o3) (by kernel_rfl) (o68o3), fun _ _ h => absurd h (by decide), trivial⟩) (fun _ _ => rfl) q68o1
theorem r68 : Rp (v68 (ta68 tu56 tu67 tu69)) C68 ST68 Try.f68 (sig 68) c68 A68 := fun w => by kernel_rfl
theorem ok68 : OkS sig (Gd G dep (dep 68)) 68 th68 := okM (v := v68) r68 Try.func68 rfl ⟨sum_in (c' := .loop b68o3) (by kernel_rfl) (o68o3), sum_in (c' := .loop b68o1) (by kernel_rfl) (o68o1), trivial⟩ te68 ue68
def C79 := mkC 79
def c79 := gc Try.f79
def T79o1 : TSt := ⟨[dS, .ptr 128 0, dB, .own 768, dI, .ptr 384 0, dI, .undef, .any, dB, .any, .any, .undef], [(128, bx1), (384, .box [dI, .own 24578]), (768, .row 3 1), (24578, .row 64 9)]⟩
def X79o1e1 : TSt := ⟨[dS, .ptr 128 0, dB, .own 768, dI, .ptr 384 0, dI, .ptr 512 0, dI, dB, dB, dB, .undef], [(128, bx1), (384, .box [dI, .own 24578]), (512, bx8), (768, .row 3 1), (24578, .row 64 9), (32775, .row 129 2)]⟩
def X79o1e2 : TSt := ⟨[dS, .ptr 128 0, dB, .own 768, dI, .ptr 384 0, dI, .undef, .any, dB, dB, .any, .undef], [(128, bx1), (384, .box [dI, .own 24578]), (768, .row 3 1), (24578, .row 64 9)]⟩
def L79o1 (m : Nat) (w : List Vr) (K : KT) : Rs := la79o1 tu68 tu78 tu114 (vS w 0) (vB w 1) (vB w 5) (vI w 8) (vI w 9) (vL w 10) (fun n35 n36 n37 b38 b39 n40 n41 n42 n43 n44 s45 n46 n47 l48 l49 => K .ret (fillS X79o1e1 [jS w 0, .b (false), .i n35, .i n36, .i n37, jB w 5, .b b38, .b b39, .i ((0 : Int)), jI w 9, .i n40, .i n41, .i n42, .i n43, .i n44, .s s45, .i n46, .i n47, jL w 10, .l l48, .l l49])) (fun n50 n51 v52 b53 v54 l55 => K (.exit 0) (fillS X79o1e2 [jS w 0, jB w 1, .i n50, .i n51, .v v52, jB w 5, .b b53, .v v54, jI w 8, jI w 9, jL w 10, .l l55])) m (vI w 2) (vI w 3) (vV w 4) (vV w 6) (vV w 7) (vL w 11)
def ST79 : LT := [(1, sumT T79o1 (L79o1 KK))]
def b79o1 := bd c79 1
theorem q79o1 : Qp L79o1 C79 ST79 b79o1 2 T79o1 := fun m w K => by kernel_rfl
theorem o79o1 : SumOk C79 KK (sumT T79o1 (L79o1 KK)) (.loop b79o1) := loop_ok T79o1 L79o1 (sums_of (t := ST79) ⟨fun _ _ h => absurd h (by decide), trivial⟩) (fun _ _ => rfl) q79o1
theorem r79 : Rp (v79 (ta79 tu68 tu78 tu114)) C79 ST79 Try.f79 (sig 79) c79 A79 := fun w => by kernel_rfl
theorem ok79 : OkS sig (Gd G dep (dep 79)) 79 th79 := okM (v := v79) r79 Try.func79 rfl ⟨sum_in (c' := .loop b79o1) (by kernel_rfl) (o79o1), trivial⟩ te79 ue79
def C59 := mkC 59
def c59 := gc Try.f59
def ST59 : LT := []
theorem r59 : Rp (v59 (ta59 tu57)) C59 ST59 Try.f59 (sig 59) c59 A59 := fun w => by kernel_rfl
theorem ok59 : OkS sig (Gd G dep (dep 59)) 59 th59 := okM (v := v59) r59 Try.func59 rfl trivial te59 ue59
def C70 := mkC 70
def c70 := gc Try.f70
def ST70 : LT := []
theorem r70 : Rp (v70 (ta70 tu59 tu69)) C70 ST70 Try.f70 (sig 70) c70 A70 := fun w => by kernel_rfl
theorem ok70 : OkS sig (Gd G dep (dep 70)) 70 th70 := okM (v := v70) r70 Try.func70 rfl trivial te70 ue70
def C80 := mkC 80
def c80 := gc Try.f80
def ST80 : LT := []
theorem r80 : Rp (v80 (ta80 tu70 tu78)) C80 ST80 Try.f80 (sig 80) c80 A80 := fun w => by kernel_rfl
theorem ok80 : OkS sig (Gd G dep (dep 80)) 80 th80 := okM (v := v80) r80 Try.func80 rfl trivial te80 ue80
def C58 := mkC 58
def c58 := gc Try.f58
def T58o1 : TSt := ⟨[dL, dB, dI, .undef, dB, .any, .any], []⟩
def X58o1e1 : TSt := ⟨[dL, dB, dI, .ptr 256 0, dB, dB, dB], [(256, .box [dI, dI, dI, dI, dI])]⟩
def X58o1e2 : TSt := ⟨[dL, dB, dI, .undef, dB, dB, .any], []⟩
def L58o1 (m : Nat) (w : List Vr) (K : KT) : Rs := la58o1 tu57 (vL w 0) (vB w 1) (vB w 3) (fun n18 b19 b20 n21 n22 n23 n24 n25 => K .ret (fillS X58o1e1 [jL w 0, .b (false), .i n18, jB w 3, .b b19, .b b20, .i n21, .i n22, .i n23, .i n24, .i n25])) (fun n26 b27 v28 => K (.exit 0) (fillS X58o1e2 [jL w 0, jB w 1, .i n26, jB w 3, .b b27, .v v28])) m (vI w 2) (vV w 4) (vV w 5)
def ST58 : LT := [(1, sumT T58o1 (L58o1 KK))]
def b58o1 := bd c58 1
theorem q58o1 : Qp L58o1 C58 ST58 b58o1 2 T58o1 := fun m w K => by kernel_rfl
theorem o58o1 : SumOk C58 KK (sumT T58o1 (L58o1 KK)) (.loop b58o1) := loop_ok T58o1 L58o1 (sums_of (t := ST58) ⟨fun _ _ h => absurd h (by decide), trivial⟩) (fun _ _ => rfl) q58o1
theorem r58 : Rp (v58 (ta58 tu57)) C58 ST58 Try.f58 (sig 58) c58 A58 := fun w => by kernel_rfl
theorem ok58 : OkS sig (Gd G dep (dep 58)) 58 th58 := okM (v := v58) r58 Try.func58 rfl ⟨sum_in (c' := .loop b58o1) (by kernel_rfl) (o58o1), trivial⟩ te58 ue58
def C23 := mkC 23
def c23 := gc Try.f23
def T23o1 : TSt := ⟨[ag1, .ptr 64 0, dB, dI, .undef, dB, .any, .any], [bn2]⟩
def X23o1e1 : TSt := ⟨[ag1, .ptr 64 0, dB, dI, .ptr 256 0, dB, dB, dB], [bn2, (256, .box [dI, dI, dI, dI, dS])]⟩
def X23o1e2 : TSt := ⟨[ag1, .ptr 64 0, dB, dI, .undef, dB, dB, .any], [bn2]⟩
def L23o1 (m : Nat) (w : List Vr) (K : KT) : Rs := la23o1 tu56 tu57 tu58 tu59 (vI w 0) (vL w 1) (vI w 2) (vL w 3) (vL w 4) (vB w 5) (vB w 7) (vI w 10) (vL w 11) (vI w 12) (vL w 13) (vL w 14) (fun n49 b50 b51 n52 n53 n54 n55 s56 => K .ret (fillS X23o1e1 [jI w 0, jL w 1, jI w 2, jL w 3, jL w 4, .b (false), .i n49, jB w 7, .b b50, .b b51, jI w 10, jL w 11, jI w 12, jL w 13, jL w 14, .i n52, .i n53, .i n54, .i n55, .s s56])) (fun n57 b58 v59 => K (.exit 0) (fillS X23o1e2 [jI w 0, jL w 1, jI w 2, jL w 3, jL w 4, jB w 5, .i n57, jB w 7, .b b58, .v v59, jI w 10, jL w 11, jI w 12, jL w 13, jL w 14])) m (vI w 6) (vV w 8) (vV w 9)
def ST23 : LT := [(1, sumT T23o1 (L23o1 KK))]
def b23o1 := bd c23 1
theorem q23o1 : Qp L23o1 C23 ST23 b23o1 2 T23o1 := fun m w K => by kernel_rfl
theorem o23o1 : SumOk C23 KK (sumT T23o1 (L23o1 KK)) (.loop b23o1) := loop_ok T23o1 L23o1 (sums_of (t := ST23) ⟨fun _ _ h => absurd h (by decide), trivial⟩) (fun _ _ => rfl) q23o1
theorem r23 : Rp (v23 (ta23 tu56 tu57 tu58 tu59)) C23 ST23 Try.f23 (sig 23) c23 A23 := fun w => by kernel_rfl
theorem ok23 : OkS sig (Gd G dep (dep 23)) 23 th23 := okM (v := v23) r23 Try.func23 rfl ⟨sum_in (c' := .loop b23o1) (by kernel_rfl) (o23o1), trivial⟩ te23 ue23
def C30 := mkC 30
def c30 := gc Try.f30
def T30o3 : TSt := ⟨[ag1, .ptr 64 0, dS, dS, dI, .undef, dI, .undef, dB, dB, .any], [bn2]⟩
def X30o3e1 : TSt := ⟨[ag1, .ptr 64 0, dS, dS, dI, .undef, dI, .undef, dB, dB, dB], [bn2]⟩
def L30o3 (m : Nat) (w : List Vr) (K : KT) : Rs := la30o3 tu23 tu67 tu68 tu69 tu70 (vI w 0) (vL w 1) (vI w 2) (vL w 3) (vL w 4) (vS w 5) (vI w 7) (vB w 9) (vB w 10) (vI w 12) (vL w 13) (vI w 14) (vL w 15) (vL w 16) (fun s106 n107 b108 => K (.exit 2) (fillS X30o3e1 [jI w 0, jL w 1, jI w 2, jL w 3, jL w 4, jS w 5, .s s106, jI w 7, .i n107, jB w 9, jB w 10, .b b108, jI w 12, jL w 13, jI w 14, jL w 15, jL w 16])) m (vS w 6) (vI w 8) (vV w 11)
def T30o1 : TSt := ⟨[ag1, .ptr 64 0, dS, dS, dI, .undef, .undef, .undef, dB, .any, .undef], [bn2]⟩
def X30o1e1 : TSt := ⟨[ag1, .ptr 64 0, dS, dS, dI, .undef, .undef, .undef, dB, dB, .undef], [bn2]⟩
def L30o1 (m : Nat) (w : List Vr) (K : KT) : Rs := la30o1 tu23 tu67 tu68 tu69 tu70 (vI w 0) (vL w 1) (vI w 2) (vL w 3) (vL w 4) (vS w 5) (vB w 8) (vI w 10) (vL w 11) (vI w 12) (vL w 13) (vL w 14) (fun s50 n51 b52 => K (.exit 0) (fillS X30o1e1 [jI w 0, jL w 1, jI w 2, jL w 3, jL w 4, jS w 5, .s s50, .i n51, jB w 8, .b b52, jI w 10, jL w 11, jI w 12, jL w 13, jL w 14])) m (vS w 6) (vI w 7) (vV w 9)
def ST30 : LT := [(3, sumT T30o3 (L30o3 KK)), (1, sumT T30o1 (L30o1 KK))]
def b30o3 := bd c30 3
def b30o1 := bd c30 1
theorem q30o3 : Qp L30o3 C30 ST30 b30o3 4 T30o3 := fun m w K => by kernel_rfl
theorem o30o3 : SumOk C30 KK (sumT T30o3 (L30o3 KK)) (.loop b30o3) := loop_ok T30o3 L30o3 (sums_of (t := ST30) ⟨fun _ _ h => absurd h (by decide), fun _ _ h => absurd h (by decide), trivial⟩) (fun _ _ => rfl) q30o3
theorem q30o1 : Qp L30o1 C30 ST30 b30o1 2 T30o1 := fun m w K => by kernel_rfl
theorem o30o1 : SumOk C30 KK (sumT T30o1 (L30o1 KK)) (.loop b30o1) := loop_ok T30o1 L30o1 (sums_of (t := ST30) ⟨sum_out (by kernel_rfl), fun _ _ h => absurd h (by decide), trivial⟩) (fun _ _ => rfl) q30o1
theorem r30 : Rp (v30 (ta30 tu23 tu67 tu68 tu69 tu70)) C30 ST30 Try.f30 (sig 30) c30 A30 := fun w => by kernel_rfl
theorem ok30 : OkS sig (Gd G dep (dep 30)) 30 th30 := okM (v := v30) r30 Try.func30 rfl ⟨sum_in (c' := .loop b30o3) (by kernel_rfl) (o30o3), sum_in (c' := .loop b30o1) (by kernel_rfl) (o30o1), trivial⟩ te30 ue30
def C36 := mkC 36
def c36 := gc Try.f36
def T36o5 : TSt := ⟨[dS, .ptr 128 0, dB, .ptr 256 0, dS, dI, .own 1920, .ptr 512 0, .ptr 640 0, dI, .undef, .any, .own 5952, dI, .undef, .any, .any, .undef, .any, dB, dB, .any, dB, .any, .any, .undef], [bn0, (256, bx0), (512, bx6), (640, bx5), (1920, .row 3 1), (5952, .row 3 1), (32770, .row 64 9), (40964, .row 90 5), (40965, .row 81 5)]⟩
def X36o5e1 : TSt := ⟨[dS, .ptr 128 0, dB, .ptr 256 0, dS, dI, .own 1920, .ptr 512 0, .ptr 640 0, dI, .undef, .any, .own 5952, dI, .own 7360, dI, dS, .ptr 1216 0, dB, dB, dB, .any, dB, dB, dB, .undef], [bn0, (256, bx0), (512, bx6), (640, bx5), (1216, .box [dI, dS]), (1920, .row 3 1), (5952, .row 3 1), (7360, .row 3 1), (32770, .row 64 9), (40964, .row 90 5), (40965, .row 81 5)]⟩
def X36o5e2 : TSt := ⟨[dS, .ptr 128 0, dB, .ptr 256 0, dS, dI, .own 1920, .ptr 512 0, .ptr 640 0, dI, .undef, .any, .own 5952, dI, .undef, .any, .any, .undef, .any, dB, dB, .any, dB, dB, .any, .undef], [bn0, (256, bx0), (512, bx6), (640, bx5), (1920, .row 3 1), (5952, .row 3 1), (32770, .row 64 9), (40964, .row 90 5), (40965, .row 81 5)]⟩
def L36o5 (m : Nat) (w : List Vr) (K : KT) : Rs := la36o5 tu30 tu77 tu78 tu79 tu80 (vS w 0) (vB w 1) (vS w 2) (vI w 4) (vB w 10) (vB w 11) (vB w 13) (vI w 16) (vI w 17) (vI w 18) (vI w 19) (vI w 20) (vI w 21) (vI w 22) (vL w 23) (vL w 24) (vL w 25) (vL w 26) (fun n161 v162 n163 n164 s165 b166 v167 b168 b169 n170 s171 l172 l173 => K .ret (fillS X36o5e1 [jS w 0, .b (false), jS w 2, .i n161, jI w 4, .v v162, .i n163, .i n164, .s s165, .b b166, jB w 10, jB w 11, .v v167, jB w 13, .b b168, .b b169, jI w 18, jI w 19, jI w 18, jI w 19, jI w 20, jI w 21, jI w 22, .i n170, .s s171, jL w 23, jL w 24, .l l172, jL w 25, jL w 26, .l l173])) (fun n174 v175 n176 v177 v178 v179 v180 b181 v182 l183 => K (.exit 2) (fillS X36o5e2 [jS w 0, jB w 1, jS w 2, .i n174, jI w 4, .v v175, .i n176, .v v177, .v v178, .v v179, jB w 10, jB w 11, .v v180, jB w 13, .b b181, .v v182, jI w 16, jI w 17, jI w 18, jI w 19, jI w 20, jI w 21, jI w 22, jL w 23, jL w 24, jL w 25, jL w 26, .l l183])) m (vI w 3) (vV w 5) (vI w 6) (vV w 7) (vV w 8) (vV w 9) (vV w 12) (vV w 14) (vV w 15) (vL w 27)
def T36o1 : TSt := ⟨[dS, .ptr 128 0, dB, .ptr 256 0, dS, dI, .own 1920, .ptr 512 0, .ptr 640 0, dI, .undef, .any, .undef, .undef, .undef, .undef, .undef, .undef, .undef, dB, .any, .any, .undef, .undef, .undef, .undef], [bn0, (256, bx0), (512, bx6), (640, bx4), (1920, .row 3 1), (32770, .row 64 9), (40964, .row 90 5)]⟩
def X36o1e1 : TSt := ⟨[dS, .ptr 128 0, dB, .ptr 256 0, dS, dI, .own 1920, .ptr 512 0, .ptr 640 0, dI, .own 3968, dI, .undef, .undef, .undef, .undef, .undef, .undef, .undef, dB, dB, dB, .undef, .undef, .undef, .undef], [bn0, (256, bx0), (512, bx6), (640, bx4), (1920, .row 3 1), (3968, .row 3 1), (32770, .row 64 9), (40964, .row 90 5)]⟩
def X36o1e2 : TSt := ⟨[dS, .ptr 128 0, dB, .ptr 256 0, dS, dI, .own 1920, .ptr 512 0, .ptr 640 0, dI, .undef, .any, .undef, .undef, .undef, .undef, .undef, .undef, .undef, dB, dB, .any, .undef, .undef, .undef, .undef], [bn0, (256, bx0), (512, bx6), (640, bx4), (1920, .row 3 1), (32770, .row 64 9), (40964, .row 90 5)]⟩
def L36o1 (m : Nat) (w : List Vr) (K : KT) : Rs := la36o1 tu30 tu77 tu78 tu79 tu80 (vS w 0) (vB w 1) (vS w 2) (vB w 6) (vI w 9) (vI w 10) (vI w 11) (vI w 12) (vI w 13) (vI w 14) (vI w 15) (vL w 16) (vL w 17) (fun n56 n57 n58 b59 b60 l61 l62 => K .ret (fillS X36o1e1 [jS w 0, .b (false), jS w 2, .i n56, .i n57, .i n58, jB w 6, .b b59, .b b60, jI w 11, jI w 12, jI w 11, jI w 12, jI w 13, jI w 14, jI w 15, jL w 16, .l l61, jL w 17, .l l62])) (fun n63 n64 v65 b66 v67 l68 => K (.exit 0) (fillS X36o1e2 [jS w 0, jB w 1, jS w 2, .i n63, .i n64, .v v65, jB w 6, .b b66, .v v67, jI w 9, jI w 10, jI w 11, jI w 12, jI w 13, jI w 14, jI w 15, jL w 16, jL w 17, .l l68])) m (vI w 3) (vI w 4) (vV w 5) (vV w 7) (vV w 8) (vL w 18)
def ST36 : LT := [(5, sumT T36o5 (L36o5 KK)), (1, sumT T36o1 (L36o1 KK))]
def b36o5 := bd c36 5
def b36o1 := bd c36 1
theorem q36o5 : Qp L36o5 C36 ST36 b36o5 6 T36o5 := fun m w K => by kernel_rfl
theorem o36o5 : SumOk C36 KK (sumT T36o5 (L36o5 KK)) (.loop b36o5) := loop_ok T36o5 L36o5 (sums_of (t := ST36) ⟨fun _ _ h => absurd h (by decide), fun _ _ h => absurd h (by decide), trivial⟩) (fun _ _ => rfl) q36o5
theorem q36o1 : Qp L36o1 C36 ST36 b36o1 2 T36o1 := fun m w K => by kernel_rfl
theorem o36o1 : SumOk C36 KK (sumT T36o1 (L36o1 KK)) (.loop b36o1) := loop_ok T36o1 L36o1 (sums_of (t := ST36) ⟨sum_out (by kernel_rfl), fun _ _ h => absurd h (by decide), trivial⟩) (fun _ _ => rfl) q36o1
theorem r36 : Rp (v36 (ta36 tu30 tu77 tu78 tu79 tu80)) C36 ST36 Try.f36 (sig 36) c36 A36 := fun w => by kernel_rfl
theorem ok36 : OkS sig (Gd G dep (dep 36)) 36 th36 := okM (v := v36) r36 Try.func36 rfl ⟨sum_in (c' := .loop b36o5) (by kernel_rfl) (o36o5), sum_in (c' := .loop b36o1) (by kernel_rfl) (o36o1), trivial⟩ te36 ue36
def C27 := mkC 27
def c27 := gc Try.f27
def T27o1 : TSt := ⟨[dL, dB, dI, dB, .any, .any], []⟩
def X27o1e1 : TSt := ⟨[dL, dB, dI, dB, dB, dB], []⟩
def X27o1e2 : TSt := ⟨[dL, dB, dI, dB, dB, .any], []⟩
def L27o1 (m : Nat) (w : List Vr) (K : KT) : Rs := la27o1 tu23 (vL w 0) (vB w 1) (vB w 3) (fun n18 b19 b20 => K .ret (fillS X27o1e1 [jL w 0, .b (false), .i n18, jB w 3, .b b19, .b b20])) (fun n21 b22 v23 => K (.exit 0) (fillS X27o1e2 [jL w 0, jB w 1, .i n21, jB w 3, .b b22, .v v23])) m (vI w 2) (vV w 4) (vV w 5)
def ST27 : LT := [(1, sumT T27o1 (L27o1 KK))]
def b27o1 := bd c27 1
theorem q27o1 : Qp L27o1 C27 ST27 b27o1 2 T27o1 := fun m w K => by kernel_rfl
theorem o27o1 : SumOk C27 KK (sumT T27o1 (L27o1 KK)) (.loop b27o1) := loop_ok T27o1 L27o1 (sums_of (t := ST27) ⟨fun _ _ h => absurd h (by decide), trivial⟩) (fun _ _ => rfl) q27o1
theorem r27 : Rp (v27 (ta27 tu23)) C27 ST27 Try.f27 (sig 27) c27 A27 := fun w => by kernel_rfl
theorem ok27 : OkS sig (Gd G dep (dep 27)) 27 th27 := okM (v := v27) r27 Try.func27 rfl ⟨sum_in (c' := .loop b27o1) (by kernel_rfl) (o27o1), trivial⟩ te27 ue27
def C32 := mkC 32
def c32 := gc Try.f32
def T32o1 : TSt := ⟨[dL, dS, dS, dI, dB, .any], []⟩
def X32o1e1 : TSt := ⟨[dL, dS, dS, dI, dB, dB], []⟩
def L32o1 (m : Nat) (w : List Vr) (K : KT) : Rs := la32o1 tu27 tu30 tu67 (vL w 0) (vS w 1) (vB w 4) (fun s19 n20 b21 => K (.exit 0) (fillS X32o1e1 [jL w 0, jS w 1, .s s19, .i n20, jB w 4, .b b21])) m (vS w 2) (vI w 3) (vV w 5)
def ST32 : LT := [(1, sumT T32o1 (L32o1 KK))]
def b32o1 := bd c32 1
theorem q32o1 : Qp L32o1 C32 ST32 b32o1 2 T32o1 := fun m w K => by kernel_rfl
theorem o32o1 : SumOk C32 KK (sumT T32o1 (L32o1 KK)) (.loop b32o1) := loop_ok T32o1 L32o1 (sums_of (t := ST32) ⟨fun _ _ h => absurd h (by decide), trivial⟩) (fun _ _ => rfl) q32o1
theorem r32 : Rp (v32 (ta32 tu27 tu30 tu67)) C32 ST32 Try.f32 (sig 32) c32 A32 := fun w => by kernel_rfl
theorem ok32 : OkS sig (Gd G dep (dep 32)) 32 th32 := okM (v := v32) r32 Try.func32 rfl ⟨sum_in (c' := .loop b32o1) (by kernel_rfl) (o32o1), trivial⟩ te32 ue32
def C38 := mkC 38
def c38 := gc Try.f38
def T38o0 : TSt := ⟨[dS, .nils, dB, .own 704, dI, dI, .any, .any, .undef, .any, .any, .any, .undef], [(704, .row 28 5)]⟩
def X38o0e1 : TSt := ⟨[dS, .own 2112, dB, .own 704, dI, dI, dS, dI, .ptr 576 0, dB, dB, dB, .undef], [(576, .box [dI, .own 36866, dI, .own 36868, .own 36869]), (704, .row 28 5), (2112, .row 28 5), (36866, .row 64 9), (36868, .row 90 5), (36869, .row 81 5)]⟩
def X38o0e2 : TSt := ⟨[dS, .nils, dB, .own 704, dI, dI, .any, .any, .undef, .any, dB, .any, .undef], [(704, .row 28 5)]⟩
def L38o0 (m : Nat) (w : List Vr) (K : KT) : Rs := la38o0 tu32 tu36 tu77 (vS w 0) (vB w 1) (fun n27 n28 s29 n30 b31 b32 b33 n34 n35 l36 l37 l38 l39 l40 => K .ret (fillS X38o0e1 [jS w 0, .b (false), .i n27, .i n28, .s s29, .i n30, .b b31, .b b32, .b b33, .i n34, .i n35, .l l36, .l l37, .l l38, .l l39, .l l40])) (fun n41 n42 v43 v44 v45 b46 v47 l48 => K (.exit 0) (fillS X38o0e2 [jS w 0, jB w 1, .i n41, .i n42, .v v43, .v v44, .v v45, .b b46, .v v47, .l l48])) m (vI w 2) (vI w 3) (vV w 4) (vV w 5) (vV w 6) (vV w 7) (vV w 8) (vL w 9)
def ST38 : LT := [(0, sumT T38o0 (L38o0 KK))]
def b38o0 := bd c38 0
theorem q38o0 : Qp L38o0 C38 ST38 b38o0 1 T38o0 := fun m w K => by kernel_rfl
theorem o38o0 : SumOk C38 KK (sumT T38o0 (L38o0 KK)) (.loop b38o0) := loop_ok T38o0 L38o0 (sums_of (t := ST38) ⟨fun _ _ h => absurd h (by decide), trivial⟩) (fun _ _ => rfl) q38o0
theorem r38 : Rp (v38 (ta38 tu32 tu36 tu77)) C38 ST38 Try.f38 (sig 38) c38 A38 := fun w => by kernel_rfl
theorem ok38 : OkS sig (Gd G dep (dep 38)) 38 th38 := okM (v := v38) r38 Try.func38 rfl ⟨sum_in (c' := .loop b38o0) (by kernel_rfl) (o38o0), trivial⟩ te38 ue38
def C136 := mkC 136
def c136 := gc Try.f136
def T136o0 : TSt := ⟨[dS, dI, dI, dI, dI, .any, .any, .any, .undef], []⟩
def X136o0e1 : TSt := ⟨[dS, dI, dI, dI, dI, dI, dB, dB, dB], []⟩
def X136o0e2 : TSt := ⟨[dS, dI, dI, dI, dI, .any, dB, .any, .undef], []⟩
def L136o0 (m : Nat) (w : List Vr) (K : KT) : Rs := l136o0 (vS w 0) (vI w 1) (vI w 2) (fun n23 n24 n25 n26 n27 b28 b29 b30 => K .ret (fillS X136o0e1 [jS w 0, .i n23, .i n24, .i n25, .i n26, .i n27, .b b28, .b b29, .b b30])) (fun n31 n32 v33 b34 v35 => K (.exit 0) (fillS X136o0e2 [jS w 0, jI w 1, jI w 2, .i n31, .i n32, .v v33, .b b34, .v v35])) m (vI w 3) (vI w 4) (vV w 5) (vV w 6) (vV w 7)
def ST136 : LT := [(0, sumT T136o0 (L136o0 KK))]
def b136o0 := bd c136 0
theorem q136o0 : Qp L136o0 C136 ST136 b136o0 1 T136o0 := fun m w K => by kernel_rfl
theorem o136o0 : SumOk C136 KK (sumT T136o0 (L136o0 KK)) (.loop b136o0) := loop_ok T136o0 L136o0 (sums_of (t := ST136) ⟨fun _ _ h => absurd h (by decide), trivial⟩) (fun _ _ => rfl) q136o0
theorem r136 : Rp (v136 t136) C136 ST136 Try.f136 (sig 136) c136 A136 := fun w => by kernel_rfl
theorem ok136 : OkS sig (Gd G dep (dep 136)) 136 th136 := okM (v := v136) r136 Try.func136 rfl ⟨sum_in (c' := .loop b136o0) (by kernel_rfl) (o136o0), trivial⟩ te136 ue136
def C116 := mkC 116
def c116 := gc Try.f116
def ST116 : LT := []
theorem r116 : Rp (v116 (ta116 tu136)) C116 ST116 Try.f116 (sig 116) c116 A116 := fun w => by kernel_rfl
theorem ok116 : OkS sig (Gd G dep (dep 116)) 116 th116 := okM (v := v116) r116 Try.func116 rfl trivial te116 ue116
def C119 := mkC 119
def c119 := gc Try.f119
def ST119 : LT := []
theorem r119 : Rp (v119 t119) C119 ST119 Try.f119 (sig 119) c119 A119 := fun w => by kernel_rfl
theorem ok119 : OkS sig (Gd G dep (dep 119)) 119 th119 := okM (v := v119) r119 Try.func119 rfl trivial te119 ue119
def C82 := mkC 82
def c82 := gc Try.f82
def ST82 : LT := []
theorem r82 : Rp (v82 (ta82 tu116 tu119)) C82 ST82 Try.f82 (sig 82) c82 A82 := fun w => by kernel_rfl
theorem ok82 : OkS sig (Gd G dep (dep 82)) 82 th82 := okM (v := v82) r82 Try.func82 rfl trivial te82 ue82
def C117 := mkC 117
def c117 := gc Try.f117
def ST117 : LT := []
theorem r117 : Rp (v117 (ta117 tu116)) C117 ST117 Try.f117 (sig 117) c117 A117 := fun w => by kernel_rfl
theorem ok117 : OkS sig (Gd G dep (dep 117)) 117 th117 := okM (v := v117) r117 Try.func117 rfl trivial te117 ue117
def C115 := mkC 115
def c115 := gc Try.f115
def T115o2 : TSt := ⟨[.ptr 0 0, .ptr 128 0, .ptr 192 0, .ptr 256 0, .undef, dI, dI, dB, dI, dI, .any], [(0, bx12), (128, bx1), (192, bx3), (256, bx7), (12290, .row 64 9), (16391, .row 129 2)]⟩
def X115o2e1 : TSt := ⟨[.ptr 0 0, .ptr 128 0, .ptr 192 0, .ptr 256 0, .undef, dI, dI, dB, dI, dI, dB], [(0, bx12), (128, bx1), (192, bx3), (256, bx7), (12290, .row 64 9), (16391, .row 129 2)]⟩
def L115o2 (m : Nat) (w : List Vr) (K : KT) : Rs := la115o2 tu82 tu116 tu117 (vI w 0) (vI w 1) (vB w 2) (vI w 3) (vI w 8) (vI w 9) (vI w 10) (vI w 11) (vI w 12) (vI w 13) (vI w 14) (vS w 15) (vI w 16) (vI w 17) (vL w 18) (fun n150 b151 s152 b153 l154 => K (.exit 2) (fillS X115o2e1 [jI w 0, jI w 1, jB w 2, jI w 3, .i n150, .b b151, .s s152, .b b153, jI w 8, jI w 9, jI w 10, jI w 11, jI w 12, jI w 13, jI w 14, jS w 15, jI w 16, jI w 17, jL w 18, .l l154])) m (vI w 4) (vV w 5) (vS w 6) (vB w 7) (vL w 19)
def T115o0 : TSt := ⟨[.ptr 0 0, .ptr 128 0, .ptr 192 0, .undef, .undef, dI, dI, .any, .any, .any, .any], [(0, bx12), (128, bx1), (192, bx3), (12290, .row 64 9)]⟩
def X115o0e1 : TSt := ⟨[.ptr 0 0, .ptr 128 0, .ptr 192 0, .undef, .undef, dI, dI, dB, .any, .any, .any], [(0, bx12), (128, bx1), (192, bx3), (12290, .row 64 9)]⟩
def L115o0 (m : Nat) (w : List Vr) (K : KT) : Rs := la115o0 tu82 tu116 tu117 (vI w 0) (vI w 8) (vI w 9) (fun n171 b172 v173 v174 v175 s176 b177 l178 => K (.exit 0) (fillS X115o0e1 [jI w 0, .i n171, .b b172, .v v173, .v v174, .v v175, .s s176, .b b177, jI w 8, jI w 9, .l l178])) m (vI w 1) (vV w 2) (vV w 3) (vV w 4) (vV w 5) (vS w 6) (vB w 7) (vL w 10)
def ST115 : LT := [(2, sumT T115o2 (L115o2 KK)), (0, sumT T115o0 (L115o0 KK))]
def b115o2 := bd c115 2
def b115o0 := bd c115 0
theorem q115o2 : Qp L115o2 C115 ST115 b115o2 3 T115o2 := fun m w K => by kernel_rfl
theorem o115o2 : SumOk C115 KK (sumT T115o2 (L115o2 KK)) (.loop b115o2) := loop_ok T115o2 L115o2 (sums_of (t := ST115) ⟨fun _ _ h => absurd h (by decide), fun _ _ h => absurd h (by decide), trivial⟩) (fun _ _ => rfl) q115o2
theorem q115o0 : Qp L115o0 C115 ST115 b115o0 1 T115o0 := fun m w K => by kernel_rfl
theorem o115o0 : SumOk C115 KK (sumT T115o0 (L115o0 KK)) (.loop b115o0) := loop_ok T115o0 L115o0 (sums_of (t := ST115) ⟨sum_in (c' := .loop b115o2) (by kernel_rfl) (o115o2), fun _ _ h => absurd h (by decide), trivial⟩) (fun _ _ => rfl) q115o0
theorem r115 : Rp (v115 (ta115 tu82 tu116 tu117)) C115 ST115 Try.f115 (sig 115) c115 A115 := fun w => by kernel_rfl
theorem ok115 : OkS sig (Gd G dep (dep 115)) 115 th115 := okM (v := v115) r115 Try.func115 rfl ⟨sum_in (c' := .loop b115o2) (by kernel_rfl) (o115o2), sum_in (c' := .loop b115o0) (by kernel_rfl) (o115o0), trivial⟩ te115 ue115
def C63 := mkC 63
def c63 := gc Try.f63
def ST63 : LT := []
theorem r63 : Rp (v63 t63) C63 ST63 Try.f63 (sig 63) c63 A63 := fun w => by kernel_rfl
theorem ok63 : OkS sig (Gd G dep (dep 63)) 63 th63 := okM (v := v63) r63 Try.func63 rfl trivial te63 ue63
def C64 := mkC 64
def c64 := gc Try.f64
def ST64 : LT := []
theorem r64 : Rp (v64 (ta64 tu63)) C64 ST64 Try.f64 (sig 64) c64 A64 := fun w => by kernel_rfl
theorem ok64 : OkS sig (Gd G dep (dep 64)) 64 th64 := okM (v := v64) r64 Try.func64 rfl trivial te64 ue64
def C118 := mkC 118
def c118 := gc Try.f118
def ST118 : LT := []
theorem r118 : Rp (v118 (ta118 tu64 tu136)) C118 ST118 Try.f118 (sig 118) c118 A118 := fun w => by kernel_rfl
theorem ok118 : OkS sig (Gd G dep (dep 118)) 118 th118 := okM (v := v118) r118 Try.func118 rfl trivial te118 ue118
def C81 := mkC 81
def c81 := gc Try.f81
def T81o2 : TSt := ⟨[.ptr 0 0, .ptr 128 0, .ptr 192 0, .ptr 832 0, .undef, .undef, .undef, .any, dI, dI, dB, dI, dI, .any], [(0, bx12), bn0, (192, bx2), (832, bx12), (12290, .row 64 9), (12292, .row 90 5), (12293, .row 81 5)]⟩
def X81o2e1 : TSt := ⟨[.ptr 0 0, .ptr 128 0, .ptr 192 0, .ptr 832 0, .undef, .undef, .undef, .any, dI, dI, dB, dI, dI, dB], [(0, bx12), bn0, (192, bx2), (832, bx12), (12290, .row 64 9), (12292, .row 90 5), (12293, .row 81 5)]⟩
def L81o2 (m : Nat) (w : List Vr) (K : KT) : Rs := la81o2 tu82 tu115 tu116 tu117 tu118 (vI w 1) (vI w 2) (vB w 3) (vI w 4) (vI w 9) (vI w 10) (vI w 11) (vI w 12) (vS w 13) (vB w 14) (vL w 15) (vL w 16) (fun v103 n104 b105 s106 b107 l108 => K (.exit 2) (fillS X81o2e1 [.v v103, jI w 1, jI w 2, jB w 3, jI w 4, .i n104, .b b105, .s s106, .b b107, jI w 9, jI w 10, jI w 11, jI w 12, jS w 13, jB w 14, jL w 15, jL w 16, .l l108])) m (vV w 0) (vI w 5) (vV w 6) (vS w 7) (vB w 8) (vL w 17)
def T81o0 : TSt := ⟨[.ptr 0 0, .ptr 128 0, .ptr 192 0, .ptr 832 0, .undef, .undef, .undef, .undef, dI, dI, .any, .undef, .undef, .undef], [(0, bx12), bn0, (192, .box [dI, .own 12290, dI, .own 12292, .nils]), (832, bx12), (12290, .row 64 9), (12292, .row 90 5)]⟩
def X81o0e1 : TSt := ⟨[.ptr 0 0, .ptr 128 0, .ptr 192 0, .ptr 832 0, .undef, .undef, .undef, .undef, dI, dI, dB, .undef, .undef, .undef], [(0, bx12), bn0, (192, .box [dI, .own 12290, dI, .own 12292, .nils]), (832, bx12), (12290, .row 64 9), (12292, .row 90 5)]⟩
def L81o0 (m : Nat) (w : List Vr) (K : KT) : Rs := la81o0 tu82 tu115 tu116 tu117 tu118 (vI w 0) (vI w 5) (vI w 6) (vI w 7) (vI w 8) (vS w 9) (vB w 10) (vL w 11) (fun n41 b42 s43 b44 l45 => K (.exit 0) (fillS X81o0e1 [jI w 0, .i n41, .b b42, .s s43, .b b44, jI w 5, jI w 6, jI w 7, jI w 8, jS w 9, jB w 10, jL w 11, .l l45])) m (vI w 1) (vV w 2) (vS w 3) (vB w 4) (vL w 12)
def ST81 : LT := [(2, sumT T81o2 (L81o2 KK)), (0, sumT T81o0 (L81o0 KK))]
def b81o2 := bd c81 2
def b81o0 := bd c81 0
theorem q81o2 : Qp L81o2 C81 ST81 b81o2 3 T81o2 := fun m w K => by kernel_rfl
theorem o81o2 : SumOk C81 KK (sumT T81o2 (L81o2 KK)) (.loop b81o2) := loop_ok T81o2 L81o2 (sums_of (t := ST81) ⟨fun _ _ h => absurd h (by decide), fun _ _ h => absurd h (by decide), trivial⟩) (fun _ _ => rfl) q81o2
theorem q81o0 : Qp L81o0 C81 ST81 b81o0 1 T81o0 := fun m w K => by kernel_rfl
theorem o81o0 : SumOk C81 KK (sumT T81o0 (L81o0 KK)) (.loop b81o0) := loop_ok T81o0 L81o0 (sums_of (t := ST81) ⟨sum_out (by kernel_rfl), fun _ _ h => absurd h (by decide), trivial⟩) (fun _ _ => rfl) q81o0
theorem r81 : Rp (v81 (ta81 tu82 tu115 tu116 tu117 tu118)) C81 ST81 Try.f81 (sig 81) c81 A81 := fun w => by kernel_rfl
theorem ok81 : OkS sig (Gd G dep (dep 81)) 81 th81 := okM (v := v81) r81 Try.func81 rfl ⟨sum_in (c' := .loop b81o2) (by kernel_rfl) (o81o2), sum_in (c' := .loop b81o0) (by kernel_rfl) (o81o0), trivial⟩ te81 ue81
def C65 := mkC 65
def c65 := gc Try.f65
def T65o0 : TSt := ⟨[dL, dB, .any, .undef, dL, dI, dI, .any, .any], []⟩
def X65o0e1 : TSt := ⟨[dL, dB, dI, .ptr 256 0, dL, dI, dI, dB, dB], [(256, .box [dI, dI, dI, dI, dI])]⟩
def X65o0e2 : TSt := ⟨[dL, dB, .any, .undef, dL, dI, dI, dB, .any], []⟩
def L65o0 (m : Nat) (w : List Vr) (K : KT) : Rs := la65o0 tu63 (vL w 0) (vB w 1) (vL w 3) (vI w 4) (fun n23 b24 b25 n26 n27 n28 n29 n30 => K .ret (fillS X65o0e1 [jL w 0, .b (false), .i n23, jL w 3, jI w 4, .i n23, .b b24, .b b25, .i n26, .i n27, .i n28, .i n29, .i n30])) (fun v31 n32 b33 v34 => K (.exit 0) (fillS X65o0e2 [jL w 0, jB w 1, .v v31, jL w 3, jI w 4, .i n32, .b b33, .v v34])) m (vV w 2) (vI w 5) (vV w 6) (vV w 7)
def ST65 : LT := [(0, sumT T65o0 (L65o0 KK))]
def b65o0 := bd c65 0
theorem q65o0 : Qp L65o0 C65 ST65 b65o0 1 T65o0 := fun m w K => by kernel_rfl
theorem o65o0 : SumOk C65 KK (sumT T65o0 (L65o0 KK)) (.loop b65o0) := loop_ok T65o0 L65o0 (sums_of (t := ST65) ⟨fun _ _ h => absurd h (by decide), trivial⟩) (fun _ _ => rfl) q65o0
theorem r65 : Rp (v65 (ta65 tu63)) C65 ST65 Try.f65 (sig 65) c65 A65 := fun w => by kernel_rfl
theorem ok65 : OkS sig (Gd G dep (dep 65)) 65 th65 := okM (v := v65) r65 Try.func65 rfl ⟨sum_in (c' := .loop b65o0) (by kernel_rfl) (o65o0), trivial⟩ te65 ue65
def C141 := mkC 141
def c141 := gc Try.f141
def ST141 : LT := []
theorem r141 : Rp (v141 t141) C141 ST141 Try.f141 (sig 141) c141 A141 := fun w => by kernel_rfl
theorem ok141 : OkS sig (Gd G dep (dep 141)) 141 th141 := okM (v := v141) r141 Try.func141 rfl trivial te141 ue141
def C130 := mkC 130
def c130 := gc Try.f130
def T130o0 : TSt := ⟨[dS, dB, .any, dI, dI, .any, .any], []⟩
def X130o0e1 : TSt := ⟨[dS, dB, dI, dI, dI, dB, dB], []⟩
def X130o0e2 : TSt := ⟨[dS, dB, .any, dI, dI, dB, .any], []⟩
def L130o0 (m : Nat) (w : List Vr) (K : KT) : Rs := la130o0 tu63 tu141 (vS w 0) (vB w 1) (vI w 3) (fun n20 b21 b22 => K .ret (fillS X130o0e1 [jS w 0, .b (false), .i n20, jI w 3, .i n20, .b b21, .b b22])) (fun v23 n24 b25 v26 => K (.exit 0) (fillS X130o0e2 [jS w 0, jB w 1, .v v23, jI w 3, .i n24, .b b25, .v v26])) m (vV w 2) (vI w 4) (vV w 5) (vV w 6)
def ST130 : LT := [(0, sumT T130o0 (L130o0 KK))]
def b130o0 := bd c130 0
theorem q130o0 : Qp L130o0 C130 ST130 b130o0 1 T130o0 := fun m w K => by kernel_rfl
theorem o130o0 : SumOk C130 KK (sumT T130o0 (L130o0 KK)) (.loop b130o0) := loop_ok T130o0 L130o0 (sums_of (t := ST130) ⟨fun _ _ h => absurd h (by decide), trivial⟩) (fun _ _ => rfl) q130o0
theorem r130 : Rp (v130 (ta130 tu63 tu141)) C130 ST130 Try.f130 (sig 130) c130 A130 := fun w => by kernel_rfl
theorem ok130 : OkS sig (Gd G dep (dep 130)) 130 th130 := okM (v := v130) r130 Try.func130 rfl ⟨sum_in (c' := .loop b130o0) (by kernel_rfl) (o130o0), trivial⟩ te130 ue130
def C142 := mkC 142
def c142 := gc Try.f142
def T142o0 : TSt := ⟨[dS, dB, .any, dI, dI, .any, .any], []⟩
def X142o0e1 : TSt := ⟨[dS, dB, dI, dI, dI, dB, dB], []⟩
def X142o0e2 : TSt := ⟨[dS, dB, .any, dI, dI, dB, .any], []⟩
def L142o0 (m : Nat) (w : List Vr) (K : KT) : Rs := la142o0 tu63 tu141 (vS w 0) (vB w 1) (vI w 3) (fun n20 b21 b22 => K .ret (fillS X142o0e1 [jS w 0, .b (false), .i n20, jI w 3, .i n20, .b b21, .b b22])) (fun v23 n24 b25 v26 => K (.exit 0) (fillS X142o0e2 [jS w 0, jB w 1, .v v23, jI w 3, .i n24, .b b25, .v v26])) m (vV w 2) (vI w 4) (vV w 5) (vV w 6)
def ST142 : LT := [(0, sumT T142o0 (L142o0 KK))]
def b142o0 := bd c142 0
theorem q142o0 : Qp L142o0 C142 ST142 b142o0 1 T142o0 := fun m w K => by kernel_rfl
theorem o142o0 : SumOk C142 KK (sumT T142o0 (L142o0 KK)) (.loop b142o0) := loop_ok T142o0 L142o0 (sums_of (t := ST142) ⟨fun _ _ h => absurd h (by decide), trivial⟩) (fun _ _ => rfl) q142o0
theorem r142 : Rp (v142 (ta142 tu63 tu141)) C142 ST142 Try.f142 (sig 142) c142 A142 := fun w => by kernel_rfl
theorem ok142 : OkS sig (Gd G dep (dep 142)) 142 th142 := okM (v := v142) r142 Try.func142 rfl ⟨sum_in (c' := .loop b142o0) (by kernel_rfl) (o142o0), trivial⟩ te142 ue142
def C132 := mkC 132
def c132 := gc Try.f132
def T132o0 : TSt := ⟨[.pv [.i .i64, .l] 0, dI, .nilp, .any, dI, dI, .any, .any], []⟩
def X132o0e1 : TSt := ⟨[.pv [.i .i64, .l] 0, dI, .pv [.i .i64, .i .i64, .i .i64, .i .i64, .i .i64, .s, .l, .i .i64, .i .i64] 0, dI, dI, dI, dB, dB], []⟩
def X132o0e2 : TSt := ⟨[.pv [.i .i64, .l] 0, dI, .nilp, .any, dI, dI, dB, .any], []⟩
def L132o0 (m : Nat) (w : List Vr) (K : KT) : Rs := l132o0 (vI w 0) (vL w 1) (vI w 2) (vI w 4) (fun n25 n26 n27 n28 n29 s30 l31 n32 n33 n34 b35 b36 => K .ret (fillS X132o0e1 [jI w 0, jL w 1, jI w 2, .i n25, .i n26, .i n27, .i n28, .i n29, .s s30, .l l31, .i n32, .i n33, .i n34, jI w 4, .i n34, .b b35, .b b36])) (fun v37 n38 b39 v40 => K (.exit 0) (fillS X132o0e2 [jI w 0, jL w 1, jI w 2, .v v37, jI w 4, .i n38, .b b39, .v v40])) m (vV w 3) (vI w 5) (vV w 6) (vV w 7)
def ST132 : LT := [(0, sumT T132o0 (L132o0 KK))]
def b132o0 := bd c132 0
theorem q132o0 : Qp L132o0 C132 ST132 b132o0 1 T132o0 := fun m w K => by kernel_rfl
theorem o132o0 : SumOk C132 KK (sumT T132o0 (L132o0 KK)) (.loop b132o0) := loop_ok T132o0 L132o0 (sums_of (t := ST132) ⟨fun _ _ h => absurd h (by decide), trivial⟩) (fun _ _ => rfl) q132o0
theorem r132 : Rp (v132 t132) C132 ST132 Try.f132 (sig 132) c132 A132 := fun w => by kernel_rfl
theorem ok132 : OkS sig (Gd G dep (dep 132)) 132 th132 := okM (v := v132) r132 Try.func132 rfl ⟨sum_in (c' := .loop b132o0) (by kernel_rfl) (o132o0), trivial⟩ te132 ue132
def C131 := mkC 131
def c131 := gc Try.f131
def T131o0 : TSt := ⟨[.pv [.i .i64, .l] 0, ag0, .ptr 192 0, dB, .any, .undef, dL, dI, dI, .any, .any], [(192, bx9)]⟩
def X131o0e1 : TSt := ⟨[.pv [.i .i64, .l] 0, ag0, .ptr 192 0, dB, dI, .ptr 384 0, dL, dI, dI, dB, dB], [(192, bx9), (384, .box [dS, dI])]⟩
def X131o0e2 : TSt := ⟨[.pv [.i .i64, .l] 0, ag0, .ptr 192 0, dB, .any, .undef, dL, dI, dI, dB, .any], [(192, bx9)]⟩
def L131o0 (m : Nat) (w : List Vr) (K : KT) : Rs := la131o0 tu132 tu142 (vI w 0) (vL w 1) (vI w 2) (vI w 3) (vI w 4) (vI w 5) (vI w 6) (vS w 7) (vL w 8) (vI w 9) (vI w 10) (vB w 11) (vL w 13) (vI w 14) (vI w 18) (vI w 19) (vI w 20) (vI w 21) (vI w 22) (vS w 23) (vL w 24) (vI w 25) (vI w 26) (fun n90 b91 b92 s93 n94 => K .ret (fillS X131o0e1 [jI w 0, jL w 1, jI w 2, jI w 3, jI w 4, jI w 5, jI w 6, jS w 7, jL w 8, jI w 9, jI w 10, .b (false), .i n90, jL w 13, jI w 14, .i n90, .b b91, .b b92, jI w 18, jI w 19, jI w 20, jI w 21, jI w 22, jS w 23, jL w 24, jI w 25, jI w 26, .s s93, .i n94])) (fun v95 n96 b97 v98 => K (.exit 0) (fillS X131o0e2 [jI w 0, jL w 1, jI w 2, jI w 3, jI w 4, jI w 5, jI w 6, jS w 7, jL w 8, jI w 9, jI w 10, jB w 11, .v v95, jL w 13, jI w 14, .i n96, .b b97, .v v98, jI w 18, jI w 19, jI w 20, jI w 21, jI w 22, jS w 23, jL w 24, jI w 25, jI w 26])) m (vV w 12) (vI w 15) (vV w 16) (vV w 17)
def ST131 : LT := [(0, sumT T131o0 (L131o0 KK))]
def b131o0 := bd c131 0
theorem q131o0 : Qp L131o0 C131 ST131 b131o0 1 T131o0 := fun m w K => by kernel_rfl
theorem o131o0 : SumOk C131 KK (sumT T131o0 (L131o0 KK)) (.loop b131o0) := loop_ok T131o0 L131o0 (sums_of (t := ST131) ⟨fun _ _ h => absurd h (by decide), trivial⟩) (fun _ _ => rfl) q131o0
theorem r131 : Rp (v131 (ta131 tu132 tu142)) C131 ST131 Try.f131 (sig 131) c131 A131 := fun w => by kernel_rfl
theorem ok131 : OkS sig (Gd G dep (dep 131)) 131 th131 := okM (v := v131) r131 Try.func131 rfl ⟨sum_in (c' := .loop b131o0) (by kernel_rfl) (o131o0), trivial⟩ te131 ue131
def C99 := mkC 99
def c99 := gc Try.f99
def ST99 : LT := []
theorem r99 : Rp (v99 (ta99 tu63 tu130 tu131)) C99 ST99 Try.f99 (sig 99) c99 A99 := fun w => by kernel_rfl
theorem ok99 : OkS sig (Gd G dep (dep 99)) 99 th99 := okM (v := v99) r99 Try.func99 rfl trivial te99 ue99
def C133 := mkC 133
def c133 := gc Try.f133
def T133o0 : TSt := ⟨[dL, dI, dI, .any, dI, dI, .any, .any], []⟩
def X133o0e1 : TSt := ⟨[dL, dI, dI, dI, dI, dI, dB, dB], []⟩
def X133o0e2 : TSt := ⟨[dL, dI, dI, .any, dI, dI, dB, .any], []⟩
def L133o0 (m : Nat) (w : List Vr) (K : KT) : Rs := l133o0 (vL w 0) (vI w 1) (vI w 2) (vI w 4) (fun n24 b25 b26 => K .ret (fillS X133o0e1 [jL w 0, jI w 1, .i n24, .i n24, jI w 4, .i n24, .b b25, .b b26])) (fun v27 n28 b29 v30 => K (.exit 0) (fillS X133o0e2 [jL w 0, jI w 1, jI w 2, .v v27, jI w 4, .i n28, .b b29, .v v30])) m (vV w 3) (vI w 5) (vV w 6) (vV w 7)
def ST133 : LT := [(0, sumT T133o0 (L133o0 KK))]
def b133o0 := bd c133 0
theorem q133o0 : Qp L133o0 C133 ST133 b133o0 1 T133o0 := fun m w K => by kernel_rfl
theorem o133o0 : SumOk C133 KK (sumT T133o0 (L133o0 KK)) (.loop b133o0) := loop_ok T133o0 L133o0 (sums_of (t := ST133) ⟨fun _ _ h => absurd h (by decide), trivial⟩) (fun _ _ => rfl) q133o0
theorem r133 : Rp (v133 t133) C133 ST133 Try.f133 (sig 133) c133 A133 := fun w => by kernel_rfl
theorem ok133 : OkS sig (Gd G dep (dep 133)) 133 th133 := okM (v := v133) r133 Try.func133 rfl ⟨sum_in (c' := .loop b133o0) (by kernel_rfl) (o133o0), trivial⟩ te133 ue133
def C101 := mkC 101
def c101 := gc Try.f101
def ST101 : LT := []
theorem r101 : Rp (v101 (ta101 tu133)) C101 ST101 Try.f101 (sig 101) c101 A101 := fun w => by kernel_rfl
theorem ok101 : OkS sig (Gd G dep (dep 101)) 101 th101 := okM (v := v101) r101 Try.func101 rfl trivial te101 ue101
def C100 := mkC 100
def c100 := gc Try.f100
def T100o3 : TSt := ⟨[.pv [.i .i64, .l] 0, dI, .nils, .own 704, .own 832, dI, .any, .undef, dB, dB, dL, dI, dI, .any, .any], [(704, .row 3 1), (832, .row 3 1)]⟩
def X100o3e1 : TSt := ⟨[.pv [.i .i64, .l] 0, dI, .nils, .own 704, .own 832, dI, .any, .undef, dB, dB, dL, dI, dI, dB, .any], [(704, .row 3 1), (832, .row 3 1)]⟩
def L100o3 (m : Nat) (w : List Vr) (K : KT) : Rs := la100o3 tu101 tu132 (vI w 0) (vL w 1) (vI w 2) (vI w 3) (vB w 5) (vB w 6) (vL w 7) (vI w 8) (fun v130 n131 b132 v133 l134 l135 => K (.exit 2) (fillS X100o3e1 [jI w 0, jL w 1, jI w 2, jI w 3, .v v130, jB w 5, jB w 6, jL w 7, jI w 8, .i n131, .b b132, .v v133, .l l134, .l l135])) m (vV w 4) (vI w 9) (vV w 10) (vV w 11) (vL w 12) (vL w 13)
def T100o0 : TSt := ⟨[.pv [.i .i64, .l] 0, dI, .nils, .own 704, .own 832, dI, .any, .undef, .any, .any, .any, .any, .any, .any, .any], [(704, .row 3 1), (832, .row 3 1)]⟩
def X100o0e1 : TSt := ⟨[.pv [.i .i64, .l] 0, dI, .nils, .own 704, .own 832, dI, .any, .undef, dB, .any, .any, .any, .any, .any, .any], [(704, .row 3 1), (832, .row 3 1)]⟩
def L100o0 (m : Nat) (w : List Vr) (K : KT) : Rs := la100o0 tu101 tu132 (vI w 0) (vL w 1) (vI w 2) (fun n170 v171 b172 v173 v174 v175 v176 v177 v178 l179 l180 => K (.exit 0) (fillS X100o0e1 [jI w 0, jL w 1, jI w 2, .i n170, .v v171, .b b172, .v v173, .v v174, .v v175, .v v176, .v v177, .v v178, .l l179, .l l180])) m (vI w 3) (vV w 4) (vV w 5) (vV w 6) (vV w 7) (vV w 8) (vV w 9) (vV w 10) (vV w 11) (vL w 12) (vL w 13)
def ST100 : LT := [(3, sumT T100o3 (L100o3 KK)), (0, sumT T100o0 (L100o0 KK))]
def b100o3 := bd c100 3
def b100o0 := bd c100 0
theorem q100o3 : Qp L100o3 C100 ST100 b100o3 4 T100o3 := fun m w K => by kernel_rfl
theorem o100o3 : SumOk C100 KK (sumT T100o3 (L100o3 KK)) (.loop b100o3) := loop_ok T100o3 L100o3 (sums_of (t := ST100) ⟨fun _ _ h => absurd h (by decide), fun _ _ h => absurd h (by decide), trivial⟩) (fun _ _ => rfl) q100o3
theorem q100o0 : Qp L100o0 C100 ST100 b100o0 1 T100o0 := fun m w K => by kernel_rfl
theorem o100o0 : SumOk C100 KK (sumT T100o0 (L100o0 KK)) (.loop b100o0) := loop_ok T100o0 L100o0 (sums_of (t := ST100) ⟨sum_in (c' := .loop b100o3) (by kernel_rfl) (o100o3), fun _ _ h => absurd h (by decide), trivial⟩) (fun _ _ => rfl) q100o0
theorem r100 : Rp (v100 (ta100 tu101 tu132)) C100 ST100 Try.f100 (sig 100) c100 A100 := fun w => by kernel_rfl
theorem ok100 : OkS sig (Gd G dep (dep 100)) 100 th100 := okM (v := v100) r100 Try.func100 rfl ⟨sum_in (c' := .loop b100o3) (by kernel_rfl) (o100o3), sum_in (c' := .loop b100o0) (by kernel_rfl) (o100o0), trivial⟩ te100 ue100
def C102 := mkC 102
def c102 := gc Try.f102
def T102o2 : TSt := ⟨[.pv [.i .i64, .l] 0, dI, dI, dI, .ptr 448 0, .undef, dL, dI, dI, dB, dL, dI, dI, .any, .any], [(448, bx9)]⟩
def X102o2e1 : TSt := ⟨[.pv [.i .i64, .l] 0, dI, dI, dI, .ptr 448 0, .undef, dL, dI, dI, dB, dL, dI, dI, dB, .any], [(448, bx9)]⟩
def L102o2 (m : Nat) (w : List Vr) (K : KT) : Rs := l102o2 (vI w 0) (vL w 1) (vI w 2) (vI w 3) (vL w 5) (vI w 6) (vI w 7) (vB w 8) (vL w 9) (vI w 10) (vI w 14) (vI w 15) (vI w 16) (vI w 17) (vI w 18) (vS w 19) (vL w 20) (vI w 21) (vI w 22) (fun n174 n175 b176 v177 => K (.exit 2) (fillS X102o2e1 [jI w 0, jL w 1, jI w 2, jI w 3, .i n174, jL w 5, jI w 6, jI w 7, jB w 8, jL w 9, jI w 10, .i n175, .b b176, .v v177, jI w 14, jI w 15, jI w 16, jI w 17, jI w 18, jS w 19, jL w 20, jI w 21, jI w 22])) m (vI w 4) (vI w 11) (vV w 12) (vV w 13)
def T102o0 : TSt := ⟨[.pv [.i .i64, .l] 0, dI, dI, dI, .undef, .undef, dL, dI, dI, .any, .any, .any, .any, .any, .any], []⟩
def X102o0e1 : TSt := ⟨[.pv [.i .i64, .l] 0, dI, dI, dI, .undef, .undef, dL, dI, dI, dB, .any, .any, .any, .any, .any], []⟩
def L102o0 (m : Nat) (w : List Vr) (K : KT) : Rs := l102o0 (vI w 0) (vL w 1) (vI w 2) (vI w 3) (vL w 5) (vI w 6) (fun n196 n197 b198 v199 v200 v201 v202 v203 => K (.exit 0) (fillS X102o0e1 [jI w 0, jL w 1, jI w 2, jI w 3, .i n196, jL w 5, jI w 6, .i n197, .b b198, .v v199, .v v200, .v v201, .v v202, .v v203])) m (vI w 4) (vI w 7) (vV w 8) (vV w 9) (vV w 10) (vV w 11) (vV w 12) (vV w 13)
def ST102 : LT := [(2, sumT T102o2 (L102o2 KK)), (0, sumT T102o0 (L102o0 KK))]
def b102o2 := bd c102 2
def b102o0 := bd c102 0
theorem q102o2 : Qp L102o2 C102 ST102 b102o2 3 T102o2 := fun m w K => by kernel_rfl
theorem o102o2 : SumOk C102 KK (sumT T102o2 (L102o2 KK)) (.loop b102o2) := loop_ok T102o2 L102o2 (sums_of (t := ST102) ⟨fun _ _ h => absurd h (by decide), fun _ _ h => absurd h (by decide), trivial⟩) (fun _ _ => rfl) q102o2
theorem q102o0 : Qp L102o0 C102 ST102 b102o0 1 T102o0 := fun m w K => by kernel_rfl
theorem o102o0 : SumOk C102 KK (sumT T102o0 (L102o0 KK)) (.loop b102o0) := loop_ok T102o0 L102o0 (sums_of (t := ST102) ⟨sum_in (c' := .loop b102o2) (by kernel_rfl) (o102o2), fun _ _ h => absurd h (by decide), trivial⟩) (fun _ _ => rfl) q102o0
theorem r102 : Rp (v102 t102) C102 ST102 Try.f102 (sig 102) c102 A102 := fun w => by kernel_rfl
theorem ok102 : OkS sig (Gd G dep (dep 102)) 102 th102 := okM (v := v102) r102 Try.func102 rfl ⟨sum_in (c' := .loop b102o2) (by kernel_rfl) (o102o2), sum_in (c' := .loop b102o0) (by kernel_rfl) (o102o0), trivial⟩ te102 ue102
def C103 := mkC 103
def c103 := gc Try.f103
def T103o0 : TSt := ⟨[.pv [.i .i64, .l] 0, dI, dI, .undef, dL, dI, dI, .any], []⟩
def X103o0e1 : TSt := ⟨[.pv [.i .i64, .l] 0, dI, dI, .undef, dL, dI, dI, dB], []⟩
def L103o0 (m : Nat) (w : List Vr) (K : KT) : Rs := l103o0 (vI w 0) (vL w 1) (vI w 2) (vL w 4) (vI w 5) (fun n26 n27 b28 => K (.exit 0) (fillS X103o0e1 [jI w 0, jL w 1, jI w 2, .i n26, jL w 4, jI w 5, .i n27, .b b28])) m (vI w 3) (vI w 6) (vV w 7)
def ST103 : LT := [(0, sumT T103o0 (L103o0 KK))]
def b103o0 := bd c103 0
theorem q103o0 : Qp L103o0 C103 ST103 b103o0 1 T103o0 := fun m w K => by kernel_rfl
theorem o103o0 : SumOk C103 KK (sumT T103o0 (L103o0 KK)) (.loop b103o0) := loop_ok T103o0 L103o0 (sums_of (t := ST103) ⟨fun _ _ h => absurd h (by decide), trivial⟩) (fun _ _ => rfl) q103o0
theorem r103 : Rp (v103 t103) C103 ST103 Try.f103 (sig 103) c103 A103 := fun w => by kernel_rfl
theorem ok103 : OkS sig (Gd G dep (dep 103)) 103 th103 := okM (v := v103) r103 Try.func103 rfl ⟨sum_in (c' := .loop b103o0) (by kernel_rfl) (o103o0), trivial⟩ te103 ue103
def C135 := mkC 135
def c135 := gc Try.f135
def T135o0 : TSt := ⟨[.pv [.i .i64, .l] 0, dI, dI, dI, dI, .own 832, .any, .any, .own 832, dI, dI, .any, .any], [(832, .row 3 1)]⟩
def X135o0e1 : TSt := ⟨[.pv [.i .i64, .l] 0, dI, dI, dI, dI, .own 832, .any, .any, .own 832, dI, dI, dB, .any], [(832, .row 3 1)]⟩
def L135o0 (m : Nat) (w : List Vr) (K : KT) : Rs := la135o0 tu100 tu132 (vI w 0) (vL w 1) (vI w 2) (vI w 3) (vI w 4) (vI w 8) (vL w 12) (fun n41 v42 v43 n44 b45 v46 => K (.exit 0) (fillS X135o0e1 [jI w 0, jL w 1, jI w 2, jI w 3, jI w 4, .i n41, .v v42, .v v43, jI w 8, .i n44, .b b45, .v v46, jL w 12])) m (vI w 5) (vV w 6) (vV w 7) (vI w 9) (vV w 10) (vV w 11)
def ST135 : LT := [(0, sumT T135o0 (L135o0 KK))]
def b135o0 := bd c135 0
theorem q135o0 : Qp L135o0 C135 ST135 b135o0 1 T135o0 := fun m w K => by kernel_rfl
theorem o135o0 : SumOk C135 KK (sumT T135o0 (L135o0 KK)) (.loop b135o0) := loop_ok T135o0 L135o0 (sums_of (t := ST135) ⟨fun _ _ h => absurd h (by decide), trivial⟩) (fun _ _ => rfl) q135o0
theorem r135 : Rp (v135 (ta135 tu100 tu132)) C135 ST135 Try.f135 (sig 135) c135 A135 := fun w => by kernel_rfl
theorem ok135 : OkS sig (Gd G dep (dep 135)) 135 th135 := okM (v := v135) r135 Try.func135 rfl ⟨sum_in (c' := .loop b135o0) (by kernel_rfl) (o135o0), trivial⟩ te135 ue135
def C105 := mkC 105
def c105 := gc Try.f105
def ST105 : LT := []
theorem r105 : Rp (v105 (ta105 tu135)) C105 ST105 Try.f105 (sig 105) c105 A105 := fun w => by kernel_rfl
theorem ok105 : OkS sig (Gd G dep (dep 105)) 105 th105 := okM (v := v105) r105 Try.func105 rfl trivial te105 ue105
def C134 := mkC 134
def c134 := gc Try.f134
def T134o0 : TSt := ⟨[dL, .fb 105 [.i .i64, .l], dI, .any, dI, dI, .any, .any], []⟩
def X134o0e1 : TSt := ⟨[dL, .fb 105 [.i .i64, .l], dI, dI, dI, dI, dB, dB], []⟩
def X134o0e2 : TSt := ⟨[dL, .fb 105 [.i .i64, .l], dI, .any, dI, dI, dB, .any], []⟩
def L134o0 (m : Nat) (w : List Vr) (K : KT) : Rs := la134o0 tu105 (vL w 0) (vI w 1) (vL w 2) (vI w 3) (vI w 5) (fun n28 b29 b30 => K .ret (fillS X134o0e1 [jL w 0, jI w 1, jL w 2, .i n28, .i n28, jI w 5, .i n28, .b b29, .b b30])) (fun v31 n32 b33 v34 => K (.exit 0) (fillS X134o0e2 [jL w 0, jI w 1, jL w 2, jI w 3, .v v31, jI w 5, .i n32, .b b33, .v v34])) m (vV w 4) (vI w 6) (vV w 7) (vV w 8)
def ST134 : LT := [(0, sumT T134o0 (L134o0 KK))]
def b134o0 := bd c134 0
theorem q134o0 : Qp L134o0 C134 ST134 b134o0 1 T134o0 := fun m w K => by kernel_rfl
theorem o134o0 : SumOk C134 KK (sumT T134o0 (L134o0 KK)) (.loop b134o0) := loop_ok T134o0 L134o0 (sums_of (t := ST134) ⟨fun _ _ h => absurd h (by decide), trivial⟩) (fun _ _ => rfl) q134o0
theorem r134 : Rp (v134 (ta134 tu105)) C134 ST134 Try.f134 (sig 134) c134 A134 := fun w => by kernel_rfl
theorem ok134 : OkS sig (Gd G dep (dep 134)) 134 th134 := okM (v := v134) r134 Try.func134 rfl ⟨sum_in (c' := .loop b134o0) (by kernel_rfl) (o134o0), trivial⟩ te134 ue134
def C104 := mkC 104
def c104 := gc Try.f104
def ST104 : LT := []
theorem r104 : Rp (v104 (ta104 tu134)) C104 ST104 Try.f104 (sig 104) c104 A104 := fun w => by kernel_rfl
theorem ok104 : OkS sig (Gd G dep (dep 104)) 104 th104 := okM (v := v104) r104 Try.func104 rfl trivial te104 ue104
def C66 := mkC 66
def c66 := gc Try.f66
def T66o4 : TSt := ⟨[ag2, .ptr 64 0, dB, .any, .undef, .own 4608, .undef, dB, dL, dI, dI, dB, .any, dL, dI, dI, .any, .any], [bn3, (4608, .row 3 1)]⟩
def X66o4e1 : TSt := ⟨[ag2, .ptr 64 0, dB, .any, .undef, .own 4608, .ptr 448 0, dB, dL, dI, dI, dB, .any, dL, dI, dI, dB, dB], [bn3, (448, bx9), (4608, .row 3 1)]⟩
def X66o4e2 : TSt := ⟨[ag2, .ptr 64 0, dB, .any, .undef, .own 4608, .undef, dB, dL, dI, dI, dB, .any, dL, dI, dI, dB, .any], [bn3, (4608, .row 3 1)]⟩
def L66o4 (m : Nat) (w : List Vr) (K : KT) : Rs := la66o4 tu63 tu99 tu100 tu101 tu102 tu103 tu104 (vI w 0) (vL w 1) (vB w 2) (vB w 4) (vL w 5) (vI w 6) (vI w 7) (vB w 8) (vL w 10) (vI w 11) (vI w 15) (vL w 16) (vL w 17) (fun v120 v121 n122 b123 b124 n125 n126 n127 n128 n129 s130 l131 n132 n133 => K .ret (fillS X66o4e1 [jI w 0, jL w 1, .b (false), .v v120, jB w 4, jL w 5, jI w 6, jI w 7, jB w 8, .v v121, jL w 10, jI w 11, .i n122, .b b123, .b b124, jI w 15, jL w 16, .i n125, .i n126, .i n127, .i n128, .i n129, .s s130, .l l131, .i n132, .i n133, jL w 17])) (fun v134 v135 n136 b137 v138 => K (.exit 2) (fillS X66o4e2 [jI w 0, jL w 1, jB w 2, .v v134, jB w 4, jL w 5, jI w 6, jI w 7, jB w 8, .v v135, jL w 10, jI w 11, .i n136, .b b137, .v v138, jI w 15, jL w 16, jL w 17])) m (vV w 3) (vV w 9) (vI w 12) (vV w 13) (vV w 14)
def T66o1 : TSt := ⟨[ag2, .ptr 64 0, dB, .any, .undef, .undef, .undef, dB, dL, dI, dI, .any, .any, .undef, .undef, .undef, .undef, .undef], [bn3]⟩
def X66o1e1 : TSt := ⟨[ag2, .ptr 64 0, dB, dI, .ptr 256 0, .undef, .undef, dB, dL, dI, dI, dB, dB, .undef, .undef, .undef, .undef, .undef], [bn3, (256, bx9)]⟩
def X66o1e2 : TSt := ⟨[ag2, .ptr 64 0, dB, .any, .undef, .undef, .undef, dB, dL, dI, dI, dB, .any, .undef, .undef, .undef, .undef, .undef], [bn3]⟩
def L66o1 (m : Nat) (w : List Vr) (K : KT) : Rs := la66o1 tu63 tu99 tu100 tu101 tu102 tu103 tu104 (vI w 0) (vL w 1) (vB w 2) (vB w 4) (vL w 5) (vI w 6) (vI w 10) (vL w 11) (fun n36 b37 b38 n39 n40 n41 n42 n43 s44 l45 n46 n47 => K .ret (fillS X66o1e1 [jI w 0, jL w 1, .b (false), .i n36, jB w 4, jL w 5, jI w 6, .i n36, .b b37, .b b38, jI w 10, jL w 11, .i n39, .i n40, .i n41, .i n42, .i n43, .s s44, .l l45, .i n46, .i n47])) (fun v48 n49 b50 v51 => K (.exit 0) (fillS X66o1e2 [jI w 0, jL w 1, jB w 2, .v v48, jB w 4, jL w 5, jI w 6, .i n49, .b b50, .v v51, jI w 10, jL w 11])) m (vV w 3) (vI w 7) (vV w 8) (vV w 9)
def ST66 : LT := [(4, sumT T66o4 (L66o4 KK)), (1, sumT T66o1 (L66o1 KK))]
def b66o4 := bd c66 4
def b66o1 := bd c66 1
theorem q66o4 : Qp L66o4 C66 ST66 b66o4 5 T66o4 := fun m w K => by kernel_rfl
theorem o66o4 : SumOk C66 KK (sumT T66o4 (L66o4 KK)) (.loop b66o4) := loop_ok T66o4 L66o4 (sums_of (t := ST66) ⟨fun _ _ h => absurd h (by decide), fun _ _ h => absurd h (by decide), trivial⟩) (fun _ _ => rfl) q66o4
theorem q66o1 : Qp L66o1 C66 ST66 b66o1 2 T66o1 := fun m w K => by kernel_rfl
theorem o66o1 : SumOk C66 KK (sumT T66o1 (L66o1 KK)) (.loop b66o1) := loop_ok T66o1 L66o1 (sums_of (t := ST66) ⟨sum_out (by kernel_rfl), fun _ _ h => absurd h (by decide), trivial⟩) (fun _ _ => rfl) q66o1
theorem r66 : Rp (v66 (ta66 tu63 tu99 tu100 tu101 tu102 tu103 tu104)) C66 ST66 Try.f66 (sig 66) c66 A66 := fun w => by kernel_rfl
theorem ok66 : OkS sig (Gd G dep (dep 66)) 66 th66 := okM (v := v66) r66 Try.func66 rfl ⟨sum_in (c' := .loop b66o4) (by kernel_rfl) (o66o4), sum_in (c' := .loop b66o1) (by kernel_rfl) (o66o1), trivial⟩ te66 ue66
def C25 := mkC 25
def c25 := gc Try.f25
def T25o0 : TSt := ⟨[ag1, .ptr 64 0, dB, .any, .undef, dL, dI, dI, .any, .any], [bn2]⟩
def X25o0e1 : TSt := ⟨[ag1, .ptr 64 0, dB, dI, .ptr 256 0, dL, dI, dI, dB, dB], [bn2, (256, .box [dI, dI, dI, dI, dS])]⟩
def X25o0e2 : TSt := ⟨[ag1, .ptr 64 0, dB, .any, .undef, dL, dI, dI, dB, .any], [bn2]⟩
def L25o0 (m : Nat) (w : List Vr) (K : KT) : Rs := la25o0 tu63 tu64 tu65 tu66 (vI w 0) (vL w 1) (vI w 2) (vL w 3) (vL w 4) (vB w 5) (vL w 7) (vI w 8) (vI w 12) (vL w 13) (vI w 14) (vL w 15) (vL w 16) (fun n54 b55 b56 n57 n58 n59 n60 s61 => K .ret (fillS X25o0e1 [jI w 0, jL w 1, jI w 2, jL w 3, jL w 4, .b (false), .i n54, jL w 7, jI w 8, .i n54, .b b55, .b b56, jI w 12, jL w 13, jI w 14, jL w 15, jL w 16, .i n57, .i n58, .i n59, .i n60, .s s61])) (fun v62 n63 b64 v65 => K (.exit 0) (fillS X25o0e2 [jI w 0, jL w 1, jI w 2, jL w 3, jL w 4, jB w 5, .v v62, jL w 7, jI w 8, .i n63, .b b64, .v v65, jI w 12, jL w 13, jI w 14, jL w 15, jL w 16])) m (vV w 6) (vI w 9) (vV w 10) (vV w 11)
def ST25 : LT := [(0, sumT T25o0 (L25o0 KK))]
def b25o0 := bd c25 0
theorem q25o0 : Qp L25o0 C25 ST25 b25o0 1 T25o0 := fun m w K => by kernel_rfl
theorem o25o0 : SumOk C25 KK (sumT T25o0 (L25o0 KK)) (.loop b25o0) := loop_ok T25o0 L25o0 (sums_of (t := ST25) ⟨fun _ _ h => absurd h (by decide), trivial⟩) (fun _ _ => rfl) q25o0
theorem r25 : Rp (v25 (ta25 tu63 tu64 tu65 tu66)) C25 ST25 Try.f25 (sig 25) c25 A25 := fun w => by kernel_rfl
theorem ok25 : OkS sig (Gd G dep (dep 25)) 25 th25 := okM (v := v25) r25 Try.func25 rfl ⟨sum_in (c' := .loop b25o0) (by kernel_rfl) (o25o0), trivial⟩ te25 ue25
def C37 := mkC 37
def c37 := gc Try.f37
def ST37 : LT := []
theorem r37 : Rp (v37 (ta37 tu25 tu81)) C37 ST37 Try.f37 (sig 37) c37 A37 := fun w => by kernel_rfl
theorem ok37 : OkS sig (Gd G dep (dep 37)) 37 th37 := okM (v := v37) r37 Try.func37 rfl trivial te37 ue37
def C39 := mkC 39
def c39 := gc Try.f39
def T39o0 : TSt := ⟨[dS, .nils, dB, .ptr 640 0, .own 704, .undef, .any, dI, .any, .any, .undef], [(640, bx12), (704, .row 28 5)]⟩
def X39o0e1 : TSt := ⟨[dS, .nils, dB, .ptr 640 0, .own 704, .ptr 384 0, dB, dI, dB, dB, .undef], [(384, .box [dI, .own 24578, dI, .own 24580, .own 24581]), (640, bx12), (704, .row 28 5), (24578, .row 64 9), (24580, .row 90 5), (24581, .row 81 5)]⟩
def X39o0e2 : TSt := ⟨[dS, .nils, dB, .ptr 640 0, .own 704, .undef, .any, dI, dB, .any, .undef], [(640, bx12), (704, .row 28 5)]⟩
def L39o0 (m : Nat) (w : List Vr) (K : KT) : Rs := la39o0 tu37 tu82 (vS w 0) (vB w 1) (fun b26 n27 b28 b29 n30 n31 s32 b33 l34 l35 l36 l37 => K .ret (fillS X39o0e1 [jS w 0, .b (false), .b b26, .i n27, .b b28, .b b29, .i n30, .i n31, .s s32, .b b33, .l l34, .l l35, .l l36, .l l37])) (fun v38 n39 b40 v41 s42 b43 l44 => K (.exit 0) (fillS X39o0e2 [jS w 0, jB w 1, .v v38, .i n39, .b b40, .v v41, .s s42, .b b43, .l l44])) m (vV w 2) (vI w 3) (vV w 4) (vV w 5) (vS w 6) (vB w 7) (vL w 8)
def ST39 : LT := [(0, sumT T39o0 (L39o0 KK))]
def b39o0 := bd c39 0
theorem q39o0 : Qp L39o0 C39 ST39 b39o0 1 T39o0 := fun m w K => by kernel_rfl
theorem o39o0 : SumOk C39 KK (sumT T39o0 (L39o0 KK)) (.loop b39o0) := loop_ok T39o0 L39o0 (sums_of (t := ST39) ⟨fun _ _ h => absurd h (by decide), trivial⟩) (fun _ _ => rfl) q39o0
theorem r39 : Rp (v39 (ta39 tu37 tu82)) C39 ST39 Try.f39 (sig 39) c39 A39 := fun w => by kernel_rfl
theorem ok39 : OkS sig (Gd G dep (dep 39)) 39 th39 := okM (v := v39) r39 Try.func39 rfl ⟨sum_in (c' := .loop b39o0) (by kernel_rfl) (o39o0), trivial⟩ te39 ue39
def C143 := mkC 143
def c143 := gc Try.f143
def ST143 : LT := []
theorem r143 : Rp (v143 t143) C143 ST143 Try.f143 (sig 143) c143 A143 := fun w => by kernel_rfl
theorem ok143 : OkS sig (Gd G dep (dep 143)) 143 th143 := okM (v := v143) r143 Try.func143 rfl trivial te143 ue143
def C137 := mkC 137
def c137 := gc Try.f137
def T137o1 : TSt := ⟨[dL, dL, dB, dI, dB, .any, .any], []⟩
def X137o1e1 : TSt := ⟨[dL, dL, dB, dI, dB, dB, dB], []⟩
def X137o1e2 : TSt := ⟨[dL, dL, dB, dI, dB, dB, .any], []⟩
def L137o1 (m : Nat) (w : List Vr) (K : KT) : Rs := la137o1 tu143 (vL w 0) (vL w 1) (vB w 2) (vB w 4) (fun n22 b23 b24 => K .ret (fillS X137o1e1 [jL w 0, jL w 1, .b (false), .i n22, jB w 4, .b b23, .b b24])) (fun n25 b26 v27 => K (.exit 0) (fillS X137o1e2 [jL w 0, jL w 1, jB w 2, .i n25, jB w 4, .b b26, .v v27])) m (vI w 3) (vV w 5) (vV w 6)
def ST137 : LT := [(1, sumT T137o1 (L137o1 KK))]
def b137o1 := bd c137 1
theorem q137o1 : Qp L137o1 C137 ST137 b137o1 2 T137o1 := fun m w K => by kernel_rfl
theorem o137o1 : SumOk C137 KK (sumT T137o1 (L137o1 KK)) (.loop b137o1) := loop_ok T137o1 L137o1 (sums_of (t := ST137) ⟨fun _ _ h => absurd h (by decide), trivial⟩) (fun _ _ => rfl) q137o1
theorem r137 : Rp (v137 (ta137 tu143)) C137 ST137 Try.f137 (sig 137) c137 A137 := fun w => by kernel_rfl
theorem ok137 : OkS sig (Gd G dep (dep 137)) 137 th137 := okM (v := v137) r137 Try.func137 rfl ⟨sum_in (c' := .loop b137o1) (by kernel_rfl) (o137o1), trivial⟩ te137 ue137
def C120 := mkC 120
def c120 := gc Try.f120
def ST120 : LT := []
theorem r120 : Rp (v120 (ta120 tu137)) C120 ST120 Try.f120 (sig 120) c120 A120 := fun w => by kernel_rfl
theorem ok120 : OkS sig (Gd G dep (dep 120)) 120 th120 := okM (v := v120) r120 Try.func120 rfl trivial te120 ue120
def C83 := mkC 83
def c83 := gc Try.f83
def T83o1 : TSt := ⟨[dL, dL, dB, dI, dB, .any, .any], []⟩
def X83o1e1 : TSt := ⟨[dL, dL, dB, dI, dB, dB, dB], []⟩
def X83o1e2 : TSt := ⟨[dL, dL, dB, dI, dB, dB, .any], []⟩
def L83o1 (m : Nat) (w : List Vr) (K : KT) : Rs := la83o1 tu120 (vL w 0) (vL w 1) (vB w 2) (vB w 4) (fun n22 b23 b24 => K .ret (fillS X83o1e1 [jL w 0, jL w 1, .b (false), .i n22, jB w 4, .b b23, .b b24])) (fun n25 b26 v27 => K (.exit 0) (fillS X83o1e2 [jL w 0, jL w 1, jB w 2, .i n25, jB w 4, .b b26, .v v27])) m (vI w 3) (vV w 5) (vV w 6)
def ST83 : LT := [(1, sumT T83o1 (L83o1 KK))]
def b83o1 := bd c83 1
theorem q83o1 : Qp L83o1 C83 ST83 b83o1 2 T83o1 := fun m w K => by kernel_rfl
theorem o83o1 : SumOk C83 KK (sumT T83o1 (L83o1 KK)) (.loop b83o1) := loop_ok T83o1 L83o1 (sums_of (t := ST83) ⟨fun _ _ h => absurd h (by decide), trivial⟩) (fun _ _ => rfl) q83o1
theorem r83 : Rp (v83 (ta83 tu120)) C83 ST83 Try.f83 (sig 83) c83 A83 := fun w => by kernel_rfl
theorem ok83 : OkS sig (Gd G dep (dep 83)) 83 th83 := okM (v := v83) r83 Try.func83 rfl ⟨sum_in (c' := .loop b83o1) (by kernel_rfl) (o83o1), trivial⟩ te83 ue83
def C42 := mkC 42
def c42 := gc Try.f42
def ST42 : LT := []
theorem r42 : Rp (v42 (ta42 tu83)) C42 ST42 Try.f42 (sig 42) c42 A42 := fun w => by kernel_rfl
theorem ok42 : OkS sig (Gd G dep (dep 42)) 42 th42 := okM (v := v42) r42 Try.func42 rfl trivial te42 ue42
def C84 := mkC 84
def c84 := gc Try.f84
def ST84 : LT := []
theorem r84 : Rp (v84 t84) C84 ST84 Try.f84 (sig 84) c84 A84 := fun w => by kernel_rfl
theorem ok84 : OkS sig (Gd G dep (dep 84)) 84 th84 := okM (v := v84) r84 Try.func84 rfl trivial te84 ue84
def C43 := mkC 43
def c43 := gc Try.f43
def T43o1 : TSt := ⟨[dL, dL, dB, dI, dB, .any, .any], []⟩
def X43o1e1 : TSt := ⟨[dL, dL, dB, dI, dB, dB, dB], []⟩
def X43o1e2 : TSt := ⟨[dL, dL, dB, dI, dB, dB, .any], []⟩
def L43o1 (m : Nat) (w : List Vr) (K : KT) : Rs := la43o1 tu84 (vL w 0) (vL w 1) (vB w 2) (vB w 4) (fun n22 b23 b24 => K .ret (fillS X43o1e1 [jL w 0, jL w 1, .b (false), .i n22, jB w 4, .b b23, .b b24])) (fun n25 b26 v27 => K (.exit 0) (fillS X43o1e2 [jL w 0, jL w 1, jB w 2, .i n25, jB w 4, .b b26, .v v27])) m (vI w 3) (vV w 5) (vV w 6)
def ST43 : LT := [(1, sumT T43o1 (L43o1 KK))]
def b43o1 := bd c43 1
theorem q43o1 : Qp L43o1 C43 ST43 b43o1 2 T43o1 := fun m w K => by kernel_rfl
theorem o43o1 : SumOk C43 KK (sumT T43o1 (L43o1 KK)) (.loop b43o1) := loop_ok T43o1 L43o1 (sums_of (t := ST43) ⟨fun _ _ h => absurd h (by decide), trivial⟩) (fun _ _ => rfl) q43o1
theorem r43 : Rp (v43 (ta43 tu84)) C43 ST43 Try.f43 (sig 43) c43 A43 := fun w => by kernel_rfl
theorem ok43 : OkS sig (Gd G dep (dep 43)) 43 th43 := okM (v := v43) r43 Try.func43 rfl ⟨sum_in (c' := .loop b43o1) (by kernel_rfl) (o43o1), trivial⟩ te43 ue43
def C121 := mkC 121
def c121 := gc Try.f121
def ST121 : LT := []
theorem r121 : Rp (v121 t121) C121 ST121 Try.f121 (sig 121) c121 A121 := fun w => by kernel_rfl
theorem ok121 : OkS sig (Gd G dep (dep 121)) 121 th121 := okM (v := v121) r121 Try.func121 rfl trivial te121 ue121
def C85 := mkC 85
def c85 := gc Try.f85
def ST85 : LT := []
theorem r85 : Rp (v85 (ta85 tu121)) C85 ST85 Try.f85 (sig 85) c85 A85 := fun w => by kernel_rfl
theorem ok85 : OkS sig (Gd G dep (dep 85)) 85 th85 := okM (v := v85) r85 Try.func85 rfl trivial te85 ue85
def C44 := mkC 44
def c44 := gc Try.f44
def T44o1 : TSt := ⟨[dL, dL, dB, dI, dB, .any, .any], []⟩
def X44o1e1 : TSt := ⟨[dL, dL, dB, dI, dB, dB, dB], []⟩
def X44o1e2 : TSt := ⟨[dL, dL, dB, dI, dB, dB, .any], []⟩
def L44o1 (m : Nat) (w : List Vr) (K : KT) : Rs := la44o1 tu85 (vL w 0) (vL w 1) (vB w 2) (vB w 4) (fun n22 b23 b24 => K .ret (fillS X44o1e1 [jL w 0, jL w 1, .b (false), .i n22, jB w 4, .b b23, .b b24])) (fun n25 b26 v27 => K (.exit 0) (fillS X44o1e2 [jL w 0, jL w 1, jB w 2, .i n25, jB w 4, .b b26, .v v27])) m (vI w 3) (vV w 5) (vV w 6)
def ST44 : LT := [(1, sumT T44o1 (L44o1 KK))]
def b44o1 := bd c44 1
theorem q44o1 : Qp L44o1 C44 ST44 b44o1 2 T44o1 := fun m w K => by kernel_rfl
theorem o44o1 : SumOk C44 KK (sumT T44o1 (L44o1 KK)) (.loop b44o1) := loop_ok T44o1 L44o1 (sums_of (t := ST44) ⟨fun _ _ h => absurd h (by decide), trivial⟩) (fun _ _ => rfl) q44o1
theorem r44 : Rp (v44 (ta44 tu85)) C44 ST44 Try.f44 (sig 44) c44 A44 := fun w => by kernel_rfl
theorem ok44 : OkS sig (Gd G dep (dep 44)) 44 th44 := okM (v := v44) r44 Try.func44 rfl ⟨sum_in (c' := .loop b44o1) (by kernel_rfl) (o44o1), trivial⟩ te44 ue44
def C14 := mkC 14
def c14 := gc Try.f14
def ST14 : LT := []
theorem r14 : Rp (v14 (ta14 tu42 tu43 tu44)) C14 ST14 Try.f14 (sig 14) c14 A14 := fun w => by kernel_rfl
theorem ok14 : OkS sig (Gd G dep (dep 14)) 14 th14 := okM (v := v14) r14 Try.func14 rfl trivial te14 ue14
def C19 := mkC 19
def c19 := gc Try.f19
def T19o1 : TSt := ⟨[dL, dL, dB, dI, dB, .any, .any], []⟩
def X19o1e1 : TSt := ⟨[dL, dL, dB, dI, dB, dB, dB], []⟩
def X19o1e2 : TSt := ⟨[dL, dL, dB, dI, dB, dB, .any], []⟩
def L19o1 (m : Nat) (w : List Vr) (K : KT) : Rs := la19o1 tu14 (vL w 0) (vL w 1) (vB w 2) (vB w 4) (fun n22 b23 b24 => K .ret (fillS X19o1e1 [jL w 0, jL w 1, .b (false), .i n22, jB w 4, .b b23, .b b24])) (fun n25 b26 v27 => K (.exit 0) (fillS X19o1e2 [jL w 0, jL w 1, jB w 2, .i n25, jB w 4, .b b26, .v v27])) m (vI w 3) (vV w 5) (vV w 6)
def ST19 : LT := [(1, sumT T19o1 (L19o1 KK))]
def b19o1 := bd c19 1
theorem q19o1 : Qp L19o1 C19 ST19 b19o1 2 T19o1 := fun m w K => by kernel_rfl
theorem o19o1 : SumOk C19 KK (sumT T19o1 (L19o1 KK)) (.loop b19o1) := loop_ok T19o1 L19o1 (sums_of (t := ST19) ⟨fun _ _ h => absurd h (by decide), trivial⟩) (fun _ _ => rfl) q19o1
theorem r19 : Rp (v19 (ta19 tu14)) C19 ST19 Try.f19 (sig 19) c19 A19 := fun w => by kernel_rfl
theorem ok19 : OkS sig (Gd G dep (dep 19)) 19 th19 := okM (v := v19) r19 Try.func19 rfl ⟨sum_in (c' := .loop b19o1) (by kernel_rfl) (o19o1), trivial⟩ te19 ue19
def C86 := mkC 86
def c86 := gc Try.f86
def T86o1 : TSt := ⟨[dI, dS, dS, dB, .any], []⟩
def X86o1e1 : TSt := ⟨[dI, dS, dS, dB, dB], []⟩
def L86o1 (m : Nat) (w : List Vr) (K : KT) : Rs := l86o1 (vS w 1) (vB w 3) (fun n16 s17 b18 => K (.exit 0) (fillS X86o1e1 [.i n16, jS w 1, .s s17, jB w 3, .b b18])) m (vI w 0) (vS w 2) (vV w 4)
def ST86 : LT := [(1, sumT T86o1 (L86o1 KK))]
def b86o1 := bd c86 1
theorem q86o1 : Qp L86o1 C86 ST86 b86o1 2 T86o1 := fun m w K => by kernel_rfl
theorem o86o1 : SumOk C86 KK (sumT T86o1 (L86o1 KK)) (.loop b86o1) := loop_ok T86o1 L86o1 (sums_of (t := ST86) ⟨fun _ _ h => absurd h (by decide), trivial⟩) (fun _ _ => rfl) q86o1
theorem r86 : Rp (v86 t86) C86 ST86 Try.f86 (sig 86) c86 A86 := fun w => by kernel_rfl
theorem ok86 : OkS sig (Gd G dep (dep 86)) 86 th86 := okM (v := v86) r86 Try.func86 rfl ⟨sum_in (c' := .loop b86o1) (by kernel_rfl) (o86o1), trivial⟩ te86 ue86
def C87 := mkC 87
def c87 := gc Try.f87
def T87o0 : TSt := ⟨[.own 1, dI, dI, dI, .any], [(1, .row 999999999 2)]⟩
def X87o0e1 : TSt := ⟨[.own 1, dI, dI, dI, dB], [(1, .row 999999999 2)]⟩
def L87o0 (m : Nat) (w : List Vr) (K : KT) : Rs := la87o0 tu86 (vI w 1) (fun n17 n18 b19 l20 => K (.exit 0) (fillS X87o0e1 [.i n17, jI w 1, .i n18, .b b19, .l l20])) m (vI w 0) (vI w 2) (vV w 3) (vL w 4)
def ST87 : LT := [(0, sumT T87o0 (L87o0 KK))]
def b87o0 := bd c87 0
theorem q87o0 : Qp L87o0 C87 ST87 b87o0 1 T87o0 := fun m w K => by kernel_rfl
theorem o87o0 : SumOk C87 KK (sumT T87o0 (L87o0 KK)) (.loop b87o0) := loop_ok T87o0 L87o0 (sums_of (t := ST87) ⟨fun _ _ h => absurd h (by decide), trivial⟩) (fun _ _ => rfl) q87o0
theorem r87 : Rp (v87 (ta87 tu86)) C87 ST87 Try.f87 (sig 87) c87 A87 := fun w => by kernel_rfl
theorem ok87 : OkS sig (Gd G dep (dep 87)) 87 th87 := okM (v := v87) r87 Try.func87 rfl ⟨sum_in (c' := .loop b87o0) (by kernel_rfl) (o87o0), trivial⟩ te87 ue87
def C51 := mkC 51
def c51 := gc Try.f51
def T51o0 : TSt := ⟨[.own 1, dI, dI, dI, .any], [(1, .row 999999999 9)]⟩
def X51o0e1 : TSt := ⟨[.own 1, dI, dI, dI, dB], [(1, .row 999999999 9)]⟩
def L51o0 (m : Nat) (w : List Vr) (K : KT) : Rs := la51o0 tu86 tu87 (vI w 1) (fun n17 n18 b19 l20 => K (.exit 0) (fillS X51o0e1 [.i n17, jI w 1, .i n18, .b b19, .l l20])) m (vI w 0) (vI w 2) (vV w 3) (vL w 4)
def ST51 : LT := [(0, sumT T51o0 (L51o0 KK))]
def b51o0 := bd c51 0
theorem q51o0 : Qp L51o0 C51 ST51 b51o0 1 T51o0 := fun m w K => by kernel_rfl
theorem o51o0 : SumOk C51 KK (sumT T51o0 (L51o0 KK)) (.loop b51o0) := loop_ok T51o0 L51o0 (sums_of (t := ST51) ⟨fun _ _ h => absurd h (by decide), trivial⟩) (fun _ _ => rfl) q51o0
theorem r51 : Rp (v51 (ta51 tu86 tu87)) C51 ST51 Try.f51 (sig 51) c51 A51 := fun w => by kernel_rfl
theorem ok51 : OkS sig (Gd G dep (dep 51)) 51 th51 := okM (v := v51) r51 Try.func51 rfl ⟨sum_in (c' := .loop b51o0) (by kernel_rfl) (o51o0), trivial⟩ te51 ue51
def C46 := mkC 46
def c46 := gc Try.f46
def T46o0 : TSt := ⟨[.own 1, dI, dI, dI, .any], [(1, .row 999999999 5)]⟩
def X46o0e1 : TSt := ⟨[.own 1, dI, dI, dI, dB], [(1, .row 999999999 5)]⟩
def L46o0 (m : Nat) (w : List Vr) (K : KT) : Rs := l46o0 (vI w 1) (fun n17 n18 b19 l20 => K (.exit 0) (fillS X46o0e1 [.i n17, jI w 1, .i n18, .b b19, .l l20])) m (vI w 0) (vI w 2) (vV w 3) (vL w 4)
def ST46 : LT := [(0, sumT T46o0 (L46o0 KK))]
def b46o0 := bd c46 0
theorem q46o0 : Qp L46o0 C46 ST46 b46o0 1 T46o0 := fun m w K => by kernel_rfl
theorem o46o0 : SumOk C46 KK (sumT T46o0 (L46o0 KK)) (.loop b46o0) := loop_ok T46o0 L46o0 (sums_of (t := ST46) ⟨fun _ _ h => absurd h (by decide), trivial⟩) (fun _ _ => rfl) q46o0
theorem r46 : Rp (v46 t46) C46 ST46 Try.f46 (sig 46) c46 A46 := fun w => by kernel_rfl
theorem ok46 : OkS sig (Gd G dep (dep 46)) 46 th46 := okM (v := v46) r46 Try.func46 rfl ⟨sum_in (c' := .loop b46o0) (by kernel_rfl) (o46o0), trivial⟩ te46 ue46
def C47 := mkC 47
def c47 := gc Try.f47
def T47o0 : TSt := ⟨[.own 1, dI, dI, dI, .any], [(1, .row 999999999 5)]⟩
def X47o0e1 : TSt := ⟨[.own 1, dI, dI, dI, dB], [(1, .row 999999999 5)]⟩
def L47o0 (m : Nat) (w : List Vr) (K : KT) : Rs := la47o0 tu86 (vI w 1) (fun n17 n18 b19 l20 => K (.exit 0) (fillS X47o0e1 [.i n17, jI w 1, .i n18, .b b19, .l l20])) m (vI w 0) (vI w 2) (vV w 3) (vL w 4)
def ST47 : LT := [(0, sumT T47o0 (L47o0 KK))]
def b47o0 := bd c47 0
theorem q47o0 : Qp L47o0 C47 ST47 b47o0 1 T47o0 := fun m w K => by kernel_rfl
theorem o47o0 : SumOk C47 KK (sumT T47o0 (L47o0 KK)) (.loop b47o0) := loop_ok T47o0 L47o0 (sums_of (t := ST47) ⟨fun _ _ h => absurd h (by decide), trivial⟩) (fun _ _ => rfl) q47o0
theorem r47 : Rp (v47 (ta47 tu86)) C47 ST47 Try.f47 (sig 47) c47 A47 := fun w => by kernel_rfl
theorem ok47 : OkS sig (Gd G dep (dep 47)) 47 th47 := okM (v := v47) r47 Try.func47 rfl ⟨sum_in (c' := .loop b47o0) (by kernel_rfl) (o47o0), trivial⟩ te47 ue47
def C20 := mkC 20
def c20 := gc Try.f20
def T20o0 : TSt := ⟨[.own 1, dI, dI, dI, .any], [(1, .row 999999999 5)]⟩
def X20o0e1 : TSt := ⟨[.own 1, dI, dI, dI, dB], [(1, .row 999999999 5)]⟩
def L20o0 (m : Nat) (w : List Vr) (K : KT) : Rs := la20o0 tu46 tu47 tu51 (vI w 1) (fun n17 n18 b19 l20 => K (.exit 0) (fillS X20o0e1 [.i n17, jI w 1, .i n18, .b b19, .l l20])) m (vI w 0) (vI w 2) (vV w 3) (vL w 4)
def ST20 : LT := [(0, sumT T20o0 (L20o0 KK))]
def b20o0 := bd c20 0
theorem q20o0 : Qp L20o0 C20 ST20 b20o0 1 T20o0 := fun m w K => by kernel_rfl
theorem o20o0 : SumOk C20 KK (sumT T20o0 (L20o0 KK)) (.loop b20o0) := loop_ok T20o0 L20o0 (sums_of (t := ST20) ⟨fun _ _ h => absurd h (by decide), trivial⟩) (fun _ _ => rfl) q20o0
theorem r20 : Rp (v20 (ta20 tu46 tu47 tu51)) C20 ST20 Try.f20 (sig 20) c20 A20 := fun w => by kernel_rfl
theorem ok20 : OkS sig (Gd G dep (dep 20)) 20 th20 := okM (v := v20) r20 Try.func20 rfl ⟨sum_in (c' := .loop b20o0) (by kernel_rfl) (o20o0), trivial⟩ te20 ue20
def C88 := mkC 88
def c88 := gc Try.f88
def T88o0 : TSt := ⟨[dL, dI, dI, dI, .any, .any, .any], []⟩
def X88o0e1 : TSt := ⟨[dL, dI, dI, dI, dB, dB, .any], []⟩
def X88o0e2 : TSt := ⟨[dL, dI, dI, dI, dB, dB, dB], []⟩
def X88o0e3 : TSt := ⟨[dL, dI, dI, dI, dB, .any, .any], []⟩
def L88o0 (m : Nat) (w : List Vr) (K : KT) : Rs := la88o0 tu86 (vL w 0) (vI w 2) (fun n21 n22 b23 b24 v25 => K .ret (fillS X88o0e1 [jL w 0, .i n21, .i ((-1 : Int)), .i n22, .b b23, .b b24, .v v25])) (fun n26 n27 b28 b29 b30 => K .ret (fillS X88o0e2 [jL w 0, .i n26, .i ((-1 : Int)), .i n27, .b b28, .b b29, .b b30])) (fun n31 n32 b33 v34 v35 => K (.exit 0) (fillS X88o0e3 [jL w 0, .i n31, jI w 2, .i n32, .b b33, .v v34, .v v35])) m (vI w 1) (vI w 3) (vV w 4) (vV w 5) (vV w 6)
def ST88 : LT := [(0, sumT T88o0 (L88o0 KK))]
def b88o0 := bd c88 0
theorem q88o0 : Qp L88o0 C88 ST88 b88o0 1 T88o0 := fun m w K => by kernel_rfl
theorem o88o0 : SumOk C88 KK (sumT T88o0 (L88o0 KK)) (.loop b88o0) := loop_ok T88o0 L88o0 (sums_of (t := ST88) ⟨fun _ _ h => absurd h (by decide), trivial⟩) (fun _ _ => rfl) q88o0
theorem r88 : Rp (v88 (ta88 tu86)) C88 ST88 Try.f88 (sig 88) c88 A88 := fun w => by kernel_rfl
theorem ok88 : OkS sig (Gd G dep (dep 88)) 88 th88 := okM (v := v88) r88 Try.func88 rfl ⟨sum_in (c' := .loop b88o0) (by kernel_rfl) (o88o0), trivial⟩ te88 ue88
def C52 := mkC 52
def c52 := gc Try.f52
def T52o0 : TSt := ⟨[dL, dI, dI, dI, .any, .any, .any, .any, .any, .any, .any, .any, .any, .any], []⟩
def X52o0e1 : TSt := ⟨[dL, dI, dI, dI, dB, dB, .any, .any, .any, .any, .any, .any, .any, .any], []⟩
def X52o0e2 : TSt := ⟨[dL, dI, dI, dI, dB, dB, dB, .any, .any, .any, .any, .any, .any, .any], []⟩
def X52o0e3 : TSt := ⟨[dL, dI, dI, dI, dB, dB, dB, dB, .any, .any, .any, .any, .any, .any], []⟩
def X52o0e4 : TSt := ⟨[dL, dI, dI, dI, dB, dB, dB, dB, dB, .any, .any, .any, .any, .any], []⟩
def X52o0e5 : TSt := ⟨[dL, dI, dI, dI, dB, dB, dB, dB, dB, dB, .any, .any, .any, .any], []⟩
def X52o0e6 : TSt := ⟨[dL, dI, dI, dI, dB, dB, dB, dB, dB, dB, dB, .any, .any, .any], []⟩
def X52o0e7 : TSt := ⟨[dL, dI, dI, dI, dB, dB, dB, dB, dB, dB, dB, dB, .any, .any], []⟩
def X52o0e8 : TSt := ⟨[dL, dI, dI, dI, dB, dB, dB, dB, dB, dB, dB, dB, dB, .any], []⟩
def X52o0e9 : TSt := ⟨[dL, dI, dI, dI, dB, dB, dB, dB, dB, dB, dB, dB, dB, dB], []⟩
def X52o0e10 : TSt := ⟨[dL, dI, dI, dI, dB, .any, .any, .any, .any, .any, .any, .any, .any, .any], []⟩
def L52o0 (m : Nat) (w : List Vr) (K : KT) : Rs := la52o0 tu86 tu88 (vL w 0) (vI w 2) (fun n35 n36 b37 b38 v39 v40 v41 v42 v43 v44 v45 v46 => K .ret (fillS X52o0e1 [jL w 0, .i n35, .i ((-1 : Int)), .i n36, .b b37, .b b38, .v v39, .v v40, .v v41, .v v42, .v v43, .v v44, .v v45, .v v46])) (fun n47 n48 b49 b50 b51 v52 v53 v54 v55 v56 v57 v58 => K .ret (fillS X52o0e2 [jL w 0, .i n47, .i ((-1 : Int)), .i n48, .b b49, .b b50, .b b51, .v v52, .v v53, .v v54, .v v55, .v v56, .v v57, .v v58])) (fun n59 n60 b61 b62 b63 b64 v65 v66 v67 v68 v69 v70 => K .ret (fillS X52o0e3 [jL w 0, .i n59, .i ((-1 : Int)), .i n60, .b b61, .b b62, .b b63, .b b64, .v v65, .v v66, .v v67, .v v68, .v v69, .v v70])) (fun n71 n72 b73 b74 b75 b76 b77 v78 v79 v80 v81 v82 => K .ret (fillS X52o0e4 [jL w 0, .i n71, .i ((-1 : Int)), .i n72, .b b73, .b b74, .b b75, .b b76, .b b77, .v v78, .v v79, .v v80, .v v81, .v v82])) (fun n83 n84 b85 b86 b87 b88 b89 b90 v91 v92 v93 v94 => K .ret (fillS X52o0e5 [jL w 0, .i n83, .i ((-1 : Int)), .i n84, .b b85, .b b86, .b b87, .b b88, .b b89, .b b90, .v v91, .v v92, .v v93, .v v94])) (fun n95 n96 b97 b98 b99 b100 b101 b102 b103 v104 v105 v106 => K .ret (fillS X52o0e6 [jL w 0, .i n95, .i ((-1 : Int)), .i n96, .b b97, .b b98, .b b99, .b b100, .b b101, .b b102, .b b103, .v v104, .v v105, .v v106])) (fun n107 n108 b109 b110 b111 b112 b113 b114 b115 b116 v117 v118 => K .ret (fillS X52o0e7 [jL w 0, .i n107, .i ((-1 : Int)), .i n108, .b b109, .b b110, .b b111, .b b112, .b b113, .b b114, .b b115, .b b116, .v v117, .v v118])) (fun n119 n120 b121 b122 b123 b124 b125 b126 b127 b128 b129 v130 => K .ret (fillS X52o0e8 [jL w 0, .i n119, .i ((-1 : Int)), .i n120, .b b121, .b b122, .b b123, .b b124, .b b125, .b b126, .b b127, .b b128, .b b129, .v v130])) (fun n131 n132 b133 b134 b135 b136 b137 b138 b139 b140 b141 b142 => K .ret (fillS X52o0e9 [jL w 0, .i n131, .i ((-1 : Int)), .i n132, .b b133, .b b134, .b b135, .b b136, .b b137, .b b138, .b b139, .b b140, .b b141, .b b142])) (fun n143 n144 b145 v146 v147 v148 v149 v150 v151 v152 v153 v154 => K (.exit 0) (fillS X52o0e10 [jL w 0, .i n143, jI w 2, .i n144, .b b145, .v v146, .v v147, .v v148, .v v149, .v v150, .v v151, .v v152, .v v153, .v v154])) m (vI w 1) (vI w 3) (vV w 4) (vV w 5) (vV w 6) (vV w 7) (vV w 8) (vV w 9) (vV w 10) (vV w 11) (vV w 12) (vV w 13)
def ST52 : LT := [(0, sumT T52o0 (L52o0 KK))]
def b52o0 := bd c52 0
theorem q52o0 : Qp L52o0 C52 ST52 b52o0 1 T52o0 := fun m w K => by kernel_rfl
theorem o52o0 : SumOk C52 KK (sumT T52o0 (L52o0 KK)) (.loop b52o0) := loop_ok T52o0 L52o0 (sums_of (t := ST52) ⟨fun _ _ h => absurd h (by decide), trivial⟩) (fun _ _ => rfl) q52o0
theorem r52 : Rp (v52 (ta52 tu86 tu88)) C52 ST52 Try.f52 (sig 52) c52 A52 := fun w => by kernel_rfl
theorem ok52 : OkS sig (Gd G dep (dep 52)) 52 th52 := okM (v := v52) r52 Try.func52 rfl ⟨sum_in (c' := .loop b52o0) (by kernel_rfl) (o52o0), trivial⟩ te52 ue52
def C49 := mkC 49
def c49 := gc Try.f49
def T49o0 : TSt := ⟨[dL, dI, dI, dI, .any, .any, .any, .any, .any, .any], []⟩
def X49o0e1 : TSt := ⟨[dL, dI, dI, dI, dB, dB, .any, .any, .any, .any], []⟩
def X49o0e2 : TSt := ⟨[dL, dI, dI, dI, dB, dB, dB, .any, .any, .any], []⟩
def X49o0e3 : TSt := ⟨[dL, dI, dI, dI, dB, dB, dB, dB, .any, .any], []⟩
def X49o0e4 : TSt := ⟨[dL, dI, dI, dI, dB, dB, dB, dB, dB, .any], []⟩
def X49o0e5 : TSt := ⟨[dL, dI, dI, dI, dB, dB, dB, dB, dB, dB], []⟩
def X49o0e6 : TSt := ⟨[dL, dI, dI, dI, dB, .any, .any, .any, .any, .any], []⟩
def L49o0 (m : Nat) (w : List Vr) (K : KT) : Rs := l49o0 (vL w 0) (vI w 2) (fun n27 n28 b29 b30 v31 v32 v33 v34 => K .ret (fillS X49o0e1 [jL w 0, .i n27, .i ((-1 : Int)), .i n28, .b b29, .b b30, .v v31, .v v32, .v v33, .v v34])) (fun n35 n36 b37 b38 b39 v40 v41 v42 => K .ret (fillS X49o0e2 [jL w 0, .i n35, .i ((-1 : Int)), .i n36, .b b37, .b b38, .b b39, .v v40, .v v41, .v v42])) (fun n43 n44 b45 b46 b47 b48 v49 v50 => K .ret (fillS X49o0e3 [jL w 0, .i n43, .i ((-1 : Int)), .i n44, .b b45, .b b46, .b b47, .b b48, .v v49, .v v50])) (fun n51 n52 b53 b54 b55 b56 b57 v58 => K .ret (fillS X49o0e4 [jL w 0, .i n51, .i ((-1 : Int)), .i n52, .b b53, .b b54, .b b55, .b b56, .b b57, .v v58])) (fun n59 n60 b61 b62 b63 b64 b65 b66 => K .ret (fillS X49o0e5 [jL w 0, .i n59, .i ((-1 : Int)), .i n60, .b b61, .b b62, .b b63, .b b64, .b b65, .b b66])) (fun n67 n68 b69 v70 v71 v72 v73 v74 => K (.exit 0) (fillS X49o0e6 [jL w 0, .i n67, jI w 2, .i n68, .b b69, .v v70, .v v71, .v v72, .v v73, .v v74])) m (vI w 1) (vI w 3) (vV w 4) (vV w 5) (vV w 6) (vV w 7) (vV w 8) (vV w 9)
def ST49 : LT := [(0, sumT T49o0 (L49o0 KK))]
def b49o0 := bd c49 0
theorem q49o0 : Qp L49o0 C49 ST49 b49o0 1 T49o0 := fun m w K => by kernel_rfl
theorem o49o0 : SumOk C49 KK (sumT T49o0 (L49o0 KK)) (.loop b49o0) := loop_ok T49o0 L49o0 (sums_of (t := ST49) ⟨fun _ _ h => absurd h (by decide), trivial⟩) (fun _ _ => rfl) q49o0
theorem r49 : Rp (v49 t49) C49 ST49 Try.f49 (sig 49) c49 A49 := fun w => by kernel_rfl
theorem ok49 : OkS sig (Gd G dep (dep 49)) 49 th49 := okM (v := v49) r49 Try.func49 rfl ⟨sum_in (c' := .loop b49o0) (by kernel_rfl) (o49o0), trivial⟩ te49 ue49
def C50 := mkC 50
def c50 := gc Try.f50
def T50o0 : TSt := ⟨[dL, dI, dI, dI, .any, .any, .any, .any, .any, .any], []⟩
def X50o0e1 : TSt := ⟨[dL, dI, dI, dI, dB, dB, .any, .any, .any, .any], []⟩
def X50o0e2 : TSt := ⟨[dL, dI, dI, dI, dB, dB, dB, .any, .any, .any], []⟩
def X50o0e3 : TSt := ⟨[dL, dI, dI, dI, dB, dB, dB, dB, .any, .any], []⟩
def X50o0e4 : TSt := ⟨[dL, dI, dI, dI, dB, dB, dB, dB, dB, .any], []⟩
def X50o0e5 : TSt := ⟨[dL, dI, dI, dI, dB, dB, dB, dB, dB, dB], []⟩
def X50o0e6 : TSt := ⟨[dL, dI, dI, dI, dB, .any, .any, .any, .any, .any], []⟩
def L50o0 (m : Nat) (w : List Vr) (K : KT) : Rs := la50o0 tu86 (vL w 0) (vI w 2) (fun n27 n28 b29 b30 v31 v32 v33 v34 => K .ret (fillS X50o0e1 [jL w 0, .i n27, .i ((-1 : Int)), .i n28, .b b29, .b b30, .v v31, .v v32, .v v33, .v v34])) (fun n35 n36 b37 b38 b39 v40 v41 v42 => K .ret (fillS X50o0e2 [jL w 0, .i n35, .i ((-1 : Int)), .i n36, .b b37, .b b38, .b b39, .v v40, .v v41, .v v42])) (fun n43 n44 b45 b46 b47 b48 v49 v50 => K .ret (fillS X50o0e3 [jL w 0, .i n43, .i ((-1 : Int)), .i n44, .b b45, .b b46, .b b47, .b b48, .v v49, .v v50])) (fun n51 n52 b53 b54 b55 b56 b57 v58 => K .ret (fillS X50o0e4 [jL w 0, .i n51, .i ((-1 : Int)), .i n52, .b b53, .b b54, .b b55, .b b56, .b b57, .v v58])) (fun n59 n60 b61 b62 b63 b64 b65 b66 => K .ret (fillS X50o0e5 [jL w 0, .i n59, .i ((-1 : Int)), .i n60, .b b61, .b b62, .b b63, .b b64, .b b65, .b b66])) (fun n67 n68 b69 v70 v71 v72 v73 v74 => K (.exit 0) (fillS X50o0e6 [jL w 0, .i n67, jI w 2, .i n68, .b b69, .v v70, .v v71, .v v72, .v v73, .v v74])) m (vI w 1) (vI w 3) (vV w 4) (vV w 5) (vV w 6) (vV w 7) (vV w 8) (vV w 9)
def ST50 : LT := [(0, sumT T50o0 (L50o0 KK))]
def b50o0 := bd c50 0
theorem q50o0 : Qp L50o0 C50 ST50 b50o0 1 T50o0 := fun m w K => by kernel_rfl
theorem o50o0 : SumOk C50 KK (sumT T50o0 (L50o0 KK)) (.loop b50o0) := loop_ok T50o0 L50o0 (sums_of (t := ST50) ⟨fun _ _ h => absurd h (by decide), trivial⟩) (fun _ _ => rfl) q50o0
theorem r50 : Rp (v50 (ta50 tu86)) C50 ST50 Try.f50 (sig 50) c50 A50 := fun w => by kernel_rfl
theorem ok50 : OkS sig (Gd G dep (dep 50)) 50 th50 := okM (v := v50) r50 Try.func50 rfl ⟨sum_in (c' := .loop b50o0) (by kernel_rfl) (o50o0), trivial⟩ te50 ue50
def C21 := mkC 21
def c21 := gc Try.f21
def T21o0 : TSt := ⟨[dL, dI, dI, dI, .any, .any, .any, .any, .any, .any], []⟩
def X21o0e1 : TSt := ⟨[dL, dI, dI, dI, dB, dB, .any, .any, .any, .any], []⟩
def X21o0e2 : TSt := ⟨[dL, dI, dI, dI, dB, dB, dB, .any, .any, .any], []⟩
def X21o0e3 : TSt := ⟨[dL, dI, dI, dI, dB, dB, dB, dB, .any, .any], []⟩
def X21o0e4 : TSt := ⟨[dL, dI, dI, dI, dB, dB, dB, dB, dB, .any], []⟩
def X21o0e5 : TSt := ⟨[dL, dI, dI, dI, dB, dB, dB, dB, dB, dB], []⟩
def X21o0e6 : TSt := ⟨[dL, dI, dI, dI, dB, .any, .any, .any, .any, .any], []⟩
def L21o0 (m : Nat) (w : List Vr) (K : KT) : Rs := la21o0 tu49 tu50 tu52 (vL w 0) (vI w 2) (fun n27 n28 b29 b30 v31 v32 v33 v34 => K .ret (fillS X21o0e1 [jL w 0, .i n27, .i ((-1 : Int)), .i n28, .b b29, .b b30, .v v31, .v v32, .v v33, .v v34])) (fun n35 n36 b37 b38 b39 v40 v41 v42 => K .ret (fillS X21o0e2 [jL w 0, .i n35, .i ((-1 : Int)), .i n36, .b b37, .b b38, .b b39, .v v40, .v v41, .v v42])) (fun n43 n44 b45 b46 b47 b48 v49 v50 => K .ret (fillS X21o0e3 [jL w 0, .i n43, .i ((-1 : Int)), .i n44, .b b45, .b b46, .b b47, .b b48, .v v49, .v v50])) (fun n51 n52 b53 b54 b55 b56 b57 v58 => K .ret (fillS X21o0e4 [jL w 0, .i n51, .i ((-1 : Int)), .i n52, .b b53, .b b54, .b b55, .b b56, .b b57, .v v58])) (fun n59 n60 b61 b62 b63 b64 b65 b66 => K .ret (fillS X21o0e5 [jL w 0, .i n59, .i ((-1 : Int)), .i n60, .b b61, .b b62, .b b63, .b b64, .b b65, .b b66])) (fun n67 n68 b69 v70 v71 v72 v73 v74 => K (.exit 0) (fillS X21o0e6 [jL w 0, .i n67, jI w 2, .i n68, .b b69, .v v70, .v v71, .v v72, .v v73, .v v74])) m (vI w 1) (vI w 3) (vV w 4) (vV w 5) (vV w 6) (vV w 7) (vV w 8) (vV w 9)
def ST21 : LT := [(0, sumT T21o0 (L21o0 KK))]
def b21o0 := bd c21 0
theorem q21o0 : Qp L21o0 C21 ST21 b21o0 1 T21o0 := fun m w K => by kernel_rfl
theorem o21o0 : SumOk C21 KK (sumT T21o0 (L21o0 KK)) (.loop b21o0) := loop_ok T21o0 L21o0 (sums_of (t := ST21) ⟨fun _ _ h => absurd h (by decide), trivial⟩) (fun _ _ => rfl) q21o0
theorem r21 : Rp (v21 (ta21 tu49 tu50 tu52)) C21 ST21 Try.f21 (sig 21) c21 A21 := fun w => by kernel_rfl
theorem ok21 : OkS sig (Gd G dep (dep 21)) 21 th21 := okM (v := v21) r21 Try.func21 rfl ⟨sum_in (c' := .loop b21o0) (by kernel_rfl) (o21o0), trivial⟩ te21 ue21
def C11 := mkC 11
def c11 := gc Try.f11
def ST11 : LT := []
theorem r11 : Rp (v11 (ta11 tu19 tu20 tu21 tu38 tu39)) C11 ST11 Try.f11 (sig 11) c11 A11 := fun w => by kernel_rfl
theorem ok11 : OkS sig (Gd G dep (dep 11)) 11 th11 := okM (v := v11) r11 Try.func11 rfl trivial te11 ue11
theorem fn_ok : ∀ f ∈ [57, 69, 113, 78, 77, 114, 139, 124, 125, 126, 91, 92, 93, 94, 127, 95, 56, 67, 68, 79, 59, 70, 80, 58, 23, 30, 36, 27, 32, 38, 136, 116, 119, 82, 117, 115, 63, 64, 118, 81, 65, 141, 130, 142, 132, 131, 99, 133, 101, 100, 102, 103, 135, 105, 134, 104, 66, 25, 37, 39, 143, 137, 120, 83, 42, 84, 43, 121, 85, 44, 14, 19, 86, 87, 51, 46, 47, 20, 88, 52, 49, 50, 21, 11], FnOk Try.prog sig f := fun f h => fnOk_of (List.all_eq_true.1 (show [57, 69, 113, 78, 77, 114, 139, 124, 125, 126, 91, 92, 93, 94, 127, 95, 56, 67, 68, 79, 59, 70, 80, 58, 23, 30, 36, 27, 32, 38, 136, 116, 119, 82, 117, 115, 63, 64, 118, 81, 65, 141, 130, 142, 132, 131, 99, 133, 101, 100, 102, 103, 135, 105, 134, 104, 66, 25, 37, 39, 143, 137, 120, 83, 42, 84, 43, 121, 85, 44, 14, 19, 86, 87, 51, 46, 47, 20, 88, 52, 49, 50, 21, 11].all (fnOkB Try.prog sig) = true by kernel_rfl) f h)
theorem ak {f : Nat} {th : List DV → Bool × List DV × List (List D)} (a : FnOk Try.prog sig f) (o : OkS sig (Gd G dep (dep f)) f th) : ∀ xs q, opt (th xs) = some q → FnOk Try.prog sig f ∧ evalBody Try.prog sig (Gd G dep (dep f)) KK f xs = some q := fun xs q h => ⟨a, o xs q h⟩
theorem all_ok : AllG (fun f xs q => FnOk Try.prog sig f ∧ evalBody Try.prog sig (Gd G dep (dep f)) KK f xs = some q) gT :=
  ⟨ak (fn_ok 57 (by simp)) ok57, ak (fn_ok 69 (by simp)) ok69, ak (fn_ok 113 (by simp)) ok113, ak (fn_ok 78 (by simp)) ok78, ak (fn_ok 77 (by simp)) ok77, ak (fn_ok 114 (by simp)) ok114, ak (fn_ok 139 (by simp)) ok139, ak (fn_ok 124 (by simp)) ok124, ak (fn_ok 125 (by simp)) ok125, ak (fn_ok 126 (by simp)) ok126, ak (fn_ok 91 (by simp)) ok91, ak (fn_ok 92 (by simp)) ok92, ak (fn_ok 93 (by simp)) ok93, ak (fn_ok 94 (by simp)) ok94, ak (fn_ok 127 (by simp)) ok127, ak (fn_ok 95 (by simp)) ok95, ak (fn_ok 56 (by simp)) ok56, ak (fn_ok 67 (by simp)) ok67, ak (fn_ok 68 (by simp)) ok68, ak (fn_ok 79 (by simp)) ok79, ak (fn_ok 59 (by simp)) ok59, ak (fn_ok 70 (by simp)) ok70, ak (fn_ok 80 (by simp)) ok80, ak (fn_ok 58 (by simp)) ok58, ak (fn_ok 23 (by simp)) ok23, ak (fn_ok 30 (by simp)) ok30, ak (fn_ok 36 (by simp)) ok36, ak (fn_ok 27 (by simp)) ok27, ak (fn_ok 32 (by simp)) ok32, ak (fn_ok 38 (by simp)) ok38, ak (fn_ok 136 (by simp)) ok136, ak (fn_ok 116 (by simp)) ok116, ak (fn_ok 119 (by simp)) ok119, ak (fn_ok 82 (by simp)) ok82, ak (fn_ok 117 (by simp)) ok117, ak (fn_ok 115 (by simp)) ok115, ak (fn_ok 63 (by simp)) ok63, ak (fn_ok 64 (by simp)) ok64, ak (fn_ok 118 (by simp)) ok118, ak (fn_ok 81 (by simp)) ok81, ak (fn_ok 65 (by simp)) ok65, ak (fn_ok 141 (by simp)) ok141, ak (fn_ok 130 (by simp)) ok130, ak (fn_ok 142 (by simp)) ok142, ak (fn_ok 132 (by simp)) ok132, ak (fn_ok 131 (by simp)) ok131, ak (fn_ok 99 (by simp)) ok99, ak (fn_ok 133 (by simp)) ok133, ak (fn_ok 101 (by simp)) ok101, ak (fn_ok 100 (by simp)) ok100, ak (fn_ok 102 (by simp)) ok102, ak (fn_ok 103 (by simp)) ok103, ak (fn_ok 135 (by simp)) ok135, ak (fn_ok 105 (by simp)) ok105, ak (fn_ok 134 (by simp)) ok134, ak (fn_ok 104 (by simp)) ok104, ak (fn_ok 66 (by simp)) ok66, ak (fn_ok 25 (by simp)) ok25, ak (fn_ok 37 (by simp)) ok37, ak (fn_ok 39 (by simp)) ok39, ak (fn_ok 143 (by simp)) ok143, ak (fn_ok 137 (by simp)) ok137, ak (fn_ok 120 (by simp)) ok120, ak (fn_ok 83 (by simp)) ok83, ak (fn_ok 42 (by simp)) ok42, ak (fn_ok 84 (by simp)) ok84, ak (fn_ok 43 (by simp)) ok43, ak (fn_ok 121 (by simp)) ok121, ak (fn_ok 85 (by simp)) ok85, ak (fn_ok 44 (by simp)) ok44, ak (fn_ok 14 (by simp)) ok14, ak (fn_ok 19 (by simp)) ok19, ak (fn_ok 86 (by simp)) ok86, ak (fn_ok 87 (by simp)) ok87, ak (fn_ok 51 (by simp)) ok51, ak (fn_ok 46 (by simp)) ok46, ak (fn_ok 47 (by simp)) ok47, ak (fn_ok 20 (by simp)) ok20, ak (fn_ok 88 (by simp)) ok88, ak (fn_ok 52 (by simp)) ok52, ak (fn_ok 49 (by simp)) ok49, ak (fn_ok 50 (by simp)) ok50, ak (fn_ok 21 (by simp)) ok21, ak (fn_ok 11 (by simp)) ok11, trivial⟩
theorem G_ok (f : Nat) : SpecOk Try.prog (sig f) (fun xs => opt (G f xs)) f := G_spec (by kernel_rfl) (allG_of all_ok) f
end
end Go.Den.L11
