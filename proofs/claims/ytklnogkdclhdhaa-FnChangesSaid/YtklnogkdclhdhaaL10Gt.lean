/- The functions' table, and that each is what its twin says. Printed by tw.py. -/
import Derived.Test.YtklnogkdclhdhaaL10Tw
import Derived.Test.YtklnogkdclhdhaaProg
import Derived.KernelRfl
set_option linter.unusedVariables false
namespace Go.Den.L10
open Go Go.Proofs
noncomputable section
set_option maxRecDepth 100000
def U {α : Type} (a : α) : α := Classical.choose (⟨a, rfl⟩ : ∃ f, f = a)
theorem U_eq {α : Type} (a : α) : U a = a := Classical.choose_spec (⟨a, rfl⟩ : ∃ f, f = a)
abbrev dI : TV := .d (.i .i64)
abbrev dB : TV := .d .b
abbrev dS : TV := .d .s
abbrev dL : TV := .d .l
def bx0 : TB := .box [.bx 0 0 (.l), dI, dI]
def bx1 : TB := .box [dI, dI, dI, dI, dS, .nils]
def bx2 : TB := .box [dI, dI, dI, dI, dS, .own 12294]
def bx3 : TB := .box [dI, dI, dI, dI, dS, .own 16390]
def bx4 : TB := .box [dI, dI, dI, dI, dS, .own 20486]
def bx5 : TB := .box [dI, dI, dI, dI, dS, .own 36870]
def bx6 : TB := .box [dI, dI, dI, dI, dS, .own 45062]
def bx7 : TB := .box [dI, dI, dI, dI, dS, .own 4992]
def bx8 : TB := .box [dI, dI, dI, dI, dS, .own 53254, .own 53255, dB]
def bx9 : TB := .box [dI, dI, dI, dI, dS, dL]
def bx10 : TB := .box [dI, dI, dS]
def ag0 : TV := .agg [dI, dI, dI, dI, dS, dL]
def bn0 : Nat × TB := (0, bx0)
def bn1 : Nat × TB := (128, bx9)
def bn2 : Nat × TB := (192, bx2)
def bn3 : Nat × TB := (192, bx9)
def bn4 : Nat × TB := (256, bx1)
def bn5 : Nat × TB := (256, bx3)
def bn6 : Nat × TB := (320, bx4)
def bn7 : Nat × TB := (448, bx10)
def bn8 : Nat × TB := (704, bx6)
abbrev KT := Cont (List DV × List (List D))
def dr (a n : Nat) : List (Nat × Nat × List Nat) := (List.range n).map fun i => (a + i, 0, [])
abbrev LT := List (Nat × (St → KT → Rs))
def Qp (L : Nat → List Vr → KT → Rs) (C : Ctx) (S : LT) (b : Code) (n : Nat) (T : TSt) : Prop := ∀ m w K, L (m + 1) w K = denK C (lkS S) b n (fillS T w) (loopK C T (L m) K)
abbrev jB (w : List Vr) (n : Nat) : Vr := .b (vB w n)
abbrev jI (w : List Vr) (n : Nat) : Vr := .i (vI w n)
abbrev jS (w : List Vr) (n : Nat) : Vr := .s (vS w n)
abbrev jL (w : List Vr) (n : Nat) : Vr := .l (vL w n)
abbrev jN (w : List Vr) (n : Nat) : Vr := .n (vN w n)
abbrev jV (w : List Vr) (n : Nat) : Vr := .v (vV w n)
def OkS (sig : Nat → Sig) (g : Nat → List DV → Bool × List DV × List (List D)) (f : Nat) (th : List DV → Bool × List DV × List (List D)) : Prop := ∀ xs q, opt (th xs) = some q → evalBody Try.prog sig g KK f xs = some q
def tu43 := U t43
theorem ue43 : tu43 = t43 := U_eq _
theorem te43 : t43 = t43 := rfl
def v43 (f : Y43) (w : List Vr) : Rs := f (vL w 0)
def th43 := fun xs => gOf zr43 zo43 (argsT A43 (v43 tu43) xs)
def tu72 := U t72
theorem ue72 : tu72 = t72 := U_eq _
theorem te72 : t72 = t72 := rfl
def v72 (f : Y72) (w : List Vr) : Rs := f (vL w 0)
def th72 := fun xs => gOf zr72 zo72 (argsT A72 (v72 tu72) xs)
def tu93 := U t93
theorem ue93 : tu93 = t93 := U_eq _
theorem te93 : t93 = t93 := rfl
def v93 (f : Y93) (w : List Vr) : Rs := f (vL w 0) (vI w 1) (vI w 2)
def th93 := fun xs => gOf zr93 zo93 (argsT A93 (v93 tu93) xs)
def tu79 := U t79
theorem ue79 : tu79 = t79 := U_eq _
theorem te79 : ta79 tu93 = t79 := by rw [ue93]; rfl
def v79 (f : Y79) (w : List Vr) : Rs := f (vL w 0) (vI w 1) (vI w 2) (vI w 3)
def th79 := fun xs => gOf zr79 zo79 (argsT A79 (v79 tu79) xs)
def tu74 := U t74
theorem ue74 : tu74 = t74 := U_eq _
theorem te74 : ta74 tu79 = t74 := by rw [ue79]; rfl
def v74 (f : Y74) (w : List Vr) : Rs := f (vL w 0) (vI w 1) (vI w 2) (vI w 3)
def th74 := fun xs => gOf zr74 zo74 (argsT A74 (v74 tu74) xs)
def tu92 := U t92
theorem ue92 : tu92 = t92 := U_eq _
theorem te92 : ta92 tu79 tu93 = t92 := by rw [ue79, ue93]; rfl
def v92 (f : Y92) (w : List Vr) : Rs := f (vL w 0) (vI w 1) (vI w 2) (vI w 3)
def th92 := fun xs => gOf zr92 zo92 (argsT A92 (v92 tu92) xs)
def tu96 := U t96
theorem ue96 : tu96 = t96 := U_eq _
theorem te96 : ta96 tu74 tu79 tu92 = t96 := by rw [ue74, ue79, ue92]; rfl
def v96 (f : Y96) (w : List Vr) : Rs := f (vL w 0) (vI w 1) (vI w 2) (vI w 3) (vI w 4) (vI w 5)
def th96 := fun xs => gOf zr96 zo96 (argsT A96 (v96 tu96) xs)
def tu91 := U t91
theorem ue91 : tu91 = t91 := U_eq _
theorem te91 : ta91 tu74 tu79 tu92 tu96 = t91 := by rw [ue74, ue79, ue92, ue96]; rfl
def v91 (f : Y91) (w : List Vr) : Rs := f (vL w 0) (vI w 1) (vI w 2)
def th91 := fun xs => gOf zr91 zo91 (argsT A91 (v91 tu91) xs)
def tu81 := U t81
theorem ue81 : tu81 = t81 := U_eq _
theorem te81 : ta81 tu79 = t81 := by rw [ue79]; rfl
def v81 (f : Y81) (w : List Vr) : Rs := f (vL w 0) (vI w 1) (vI w 2) (vL w 3)
def th81 := fun xs => gOf zr81 zo81 (argsT A81 (v81 tu81) xs)
def tu73 := U t73
theorem ue73 : tu73 = t73 := U_eq _
theorem te73 : ta73 tu74 tu79 tu81 tu91 = t73 := by rw [ue74, ue79, ue81, ue91]; rfl
def v73 (f : Y73) (w : List Vr) : Rs := f (vL w 0) (vI w 1) (vI w 2)
def th73 := fun xs => gOf zr73 zo73 (argsT A73 (v73 tu73) xs)
def tu53 := U t53
theorem ue53 : tu53 = t53 := U_eq _
theorem te53 : t53 = t53 := rfl
def v53 (f : Y53) (w : List Vr) : Rs := f (vI w 0) (vI w 1) (vI w 2) (vI w 3) (vS w 4) (vL w 5)
def th53 := fun xs => gOf zr53 zo53 (argsT A53 (v53 tu53) xs)
def tu75 := U t75
theorem ue75 : tu75 = t75 := U_eq _
theorem te75 : ta75 tu53 tu74 tu79 tu92 = t75 := by rw [ue53, ue74, ue79, ue92]; rfl
def v75 (f : Y75) (w : List Vr) : Rs := f (vL w 0) (vI w 1) (vI w 2) (vI w 3) (vI w 4) (vI w 5) (vI w 6) (vS w 7) (vL w 8)
def th75 := fun xs => gOf zr75 zo75 (argsT A75 (v75 tu75) xs)
def tu44 := U t44
theorem ue44 : tu44 = t44 := U_eq _
theorem te44 : ta44 tu72 tu73 tu74 tu75 = t44 := by rw [ue72, ue73, ue74, ue75]; rfl
def v44 (f : Y44) (w : List Vr) : Rs := f (vL w 0)
def th44 := fun xs => gOf zr44 zo44 (argsT A44 (v44 tu44) xs)
def tu76 := U t76
theorem ue76 : tu76 = t76 := U_eq _
theorem te76 : t76 = t76 := rfl
def v76 (f : Y76) (w : List Vr) : Rs := f (vI w 0) (vI w 1) (vI w 2)
def th76 := fun xs => gOf zr76 zo76 (argsT A76 (v76 tu76) xs)
def tu56 := U t56
theorem ue56 : tu56 = t56 := U_eq _
theorem te56 : ta56 tu76 = t56 := by rw [ue76]; rfl
def v56 (f : Y56) (w : List Vr) : Rs := f (vI w 0) (vI w 1) (vI w 2) (vI w 3) (vS w 4) (vL w 5)
def th56 := fun xs => gOf zr56 zo56 (argsT A56 (v56 tu56) xs)
def tu57 := U t57
theorem ue57 : tu57 = t57 := U_eq _
theorem te57 : t57 = t57 := rfl
def v57 (f : Y57) (w : List Vr) : Rs := f (vI w 0) (vI w 1) (vI w 2) (vI w 3) (vS w 4) (vL w 5)
def th57 := fun xs => gOf zr57 zo57 (argsT A57 (v57 tu57) xs)
def tu45 := U t45
theorem ue45 : tu45 = t45 := U_eq _
theorem te45 : ta45 tu76 = t45 := by rw [ue76]; rfl
def v45 (f : Y45) (w : List Vr) : Rs := f (vI w 0) (vI w 1) (vI w 2) (vI w 3) (vS w 4)
def th45 := fun xs => gOf zr45 zo45 (argsT A45 (v45 tu45) xs)
def tu95 := U t95
theorem ue95 : tu95 = t95 := U_eq _
theorem te95 : t95 = t95 := rfl
def v95 (f : Y95) (w : List Vr) : Rs := f (vI w 0) (vI w 1) (vI w 2) (vI w 3) (vS w 4) (vL w 5)
def th95 := fun xs => gOf zr95 zo95 (argsT A95 (v95 tu95) xs)
def tu88 := U t88
theorem ue88 : tu88 = t88 := U_eq _
theorem te88 : ta88 tu76 tu95 = t88 := by rw [ue76, ue95]; rfl
def v88 (f : Y88) (w : List Vr) : Rs := f (vI w 0) (vI w 1) (vI w 2) (vI w 3) (vS w 4) (vL w 5) (vI w 6) (vI w 7) (vI w 8) (vI w 9) (vS w 10)
def th88 := fun xs => gOf zr88 zo88 (argsT A88 (v88 tu88) xs)
def tu58 := U t58
theorem ue58 : tu58 = t58 := U_eq _
theorem te58 : ta58 tu45 tu88 = t58 := by rw [ue45, ue88]; rfl
def v58 (f : Y58) (w : List Vr) : Rs := f (vI w 0) (vI w 1) (vI w 2) (vI w 3) (vS w 4) (vL w 5) (vI w 6) (vI w 7) (vI w 8) (vI w 9) (vS w 10)
def th58 := fun xs => gOf zr58 zo58 (argsT A58 (v58 tu58) xs)
def tu90 := U t90
theorem ue90 : tu90 = t90 := U_eq _
theorem te90 : ta90 tu58 = t90 := by rw [ue58]; rfl
def v90 (f : Y90) (w : List Vr) : Rs := f (vI w 0) (vI w 1) (vI w 2) (vI w 3) (vS w 4) (vL w 5) (vL w 6) (vB w 7) (vI w 8) (vI w 9) (vI w 10) (vI w 11) (vS w 12)
def th90 := fun xs => gOf zr90 zo90 (argsT A90 (v90 tu90) xs)
def tu66 := U t66
theorem ue66 : tu66 = t66 := U_eq _
theorem te66 : ta66 tu57 tu90 = t66 := by rw [ue57, ue90]; rfl
def v66 (f : Y66) (w : List Vr) : Rs := f (vI w 0) (vI w 1) (vI w 2) (vI w 3) (vS w 4) (vL w 5) (vI w 6) (vI w 7) (vI w 8) (vI w 9) (vS w 10) (vL w 11)
def th66 := fun xs => gOf zr66 zo66 (argsT A66 (v66 tu66) xs)
def tu27 := U t27
theorem ue27 : tu27 = t27 := U_eq _
theorem te27 : ta27 tu56 tu66 = t27 := by rw [ue56, ue66]; rfl
def v27 (f : Y27) (w : List Vr) : Rs := f (vI w 0) (vI w 1) (vI w 2) (vI w 3) (vS w 4) (vL w 5) (vI w 6) (vI w 7) (vI w 8) (vI w 9) (vS w 10) (vL w 11)
def th27 := fun xs => gOf zr27 zo27 (argsT A27 (v27 tu27) xs)
def tu83 := U t83
theorem ue83 : tu83 = t83 := U_eq _
theorem te83 : t83 = t83 := rfl
def v83 (f : Y83) (w : List Vr) : Rs := f (vI w 0) (vI w 1) (vI w 2)
def th83 := fun xs => gOf zr83 zo83 (argsT A83 (v83 tu83) xs)
def tu84 := U t84
theorem ue84 : tu84 = t84 := U_eq _
theorem te84 : ta84 tu83 = t84 := by rw [ue83]; rfl
def v84 (f : Y84) (w : List Vr) : Rs := f (vI w 0) (vI w 1)
def th84 := fun xs => gOf zr84 zo84 (argsT A84 (v84 tu84) xs)
def tu51 := U t51
theorem ue51 : tu51 = t51 := U_eq _
theorem te51 : ta51 tu83 tu84 = t51 := by rw [ue83, ue84]; rfl
def v51 (f : Y51) (w : List Vr) : Rs := f (vI w 0) (vI w 1) (vI w 2) (vI w 3) (vS w 4) (vL w 5)
def th51 := fun xs => gOf zr51 zo51 (argsT A51 (v51 tu51) xs)
def tu65 := U t65
theorem ue65 : tu65 = t65 := U_eq _
theorem te65 : t65 = t65 := rfl
def v65 (f : Y65) (w : List Vr) : Rs := f (vI w 0) (vI w 1) (vI w 2) (vI w 3) (vS w 4) (vL w 5) (vI w 6) (vI w 7)
def th65 := fun xs => gOf zr65 zo65 (argsT A65 (v65 tu65) xs)
def tu85 := U t85
theorem ue85 : tu85 = t85 := U_eq _
theorem te85 : ta85 tu83 = t85 := by rw [ue83]; rfl
def v85 (f : Y85) (w : List Vr) : Rs := f (vI w 0) (vI w 1) (vI w 2) (vI w 3) (vS w 4)
def th85 := fun xs => gOf zr85 zo85 (argsT A85 (v85 tu85) xs)
def tu94 := U t94
theorem ue94 : tu94 = t94 := U_eq _
theorem te94 : t94 = t94 := rfl
def v94 (f : Y94) (w : List Vr) : Rs := f (vI w 0) (vI w 1) (vI w 2) (vI w 3) (vS w 4) (vL w 5)
def th94 := fun xs => gOf zr94 zo94 (argsT A94 (v94 tu94) xs)
def tu86 := U t86
theorem ue86 : tu86 = t86 := U_eq _
theorem te86 : ta86 tu94 = t86 := by rw [ue94]; rfl
def v86 (f : Y86) (w : List Vr) : Rs := f (vI w 0) (vI w 1) (vI w 2) (vI w 3) (vS w 4) (vL w 5) (vI w 6) (vI w 7) (vI w 8) (vI w 9) (vS w 10)
def th86 := fun xs => gOf zr86 zo86 (argsT A86 (v86 tu86) xs)
def tu52 := U t52
theorem ue52 : tu52 = t52 := U_eq _
theorem te52 : ta52 tu65 tu85 tu86 = t52 := by rw [ue65, ue85, ue86]; rfl
def v52 (f : Y52) (w : List Vr) : Rs := f (vI w 0) (vI w 1) (vI w 2) (vI w 3) (vS w 4) (vL w 5) (vI w 6) (vI w 7) (vI w 8) (vI w 9) (vS w 10)
def th52 := fun xs => gOf zr52 zo52 (argsT A52 (v52 tu52) xs)
def tu26 := U t26
theorem ue26 : tu26 = t26 := U_eq _
theorem te26 : ta26 tu51 tu52 tu53 tu65 = t26 := by rw [ue51, ue52, ue53, ue65]; rfl
def v26 (f : Y26) (w : List Vr) : Rs := f (vI w 0) (vI w 1) (vI w 2) (vI w 3) (vS w 4) (vL w 5) (vI w 6) (vI w 7) (vI w 8) (vI w 9) (vS w 10) (vL w 11)
def th26 := fun xs => gOf zr26 zo26 (argsT A26 (v26 tu26) xs)
def tu17 := U t17
theorem ue17 : tu17 = t17 := U_eq _
theorem te17 : ta17 tu56 tu57 tu58 = t17 := by rw [ue56, ue57, ue58]; rfl
def v17 (f : Y17) (w : List Vr) : Rs := f (vI w 0) (vI w 1) (vI w 2) (vI w 3) (vS w 4) (vL w 5) (vI w 6) (vI w 7) (vI w 8) (vI w 9) (vS w 10)
def th17 := fun xs => gOf zr17 zo17 (argsT A17 (v17 tu17) xs)
def tu77 := U t77
theorem ue77 : tu77 = t77 := U_eq _
theorem te77 : t77 = t77 := rfl
def v77 (f : Y77) (w : List Vr) : Rs := f (vL w 0) (vL w 1)
def th77 := fun xs => gOf zr77 zo77 (argsT A77 (v77 tu77) xs)
def tu46 := U t46
theorem ue46 : tu46 = t46 := U_eq _
theorem te46 : ta46 tu77 = t46 := by rw [ue77]; rfl
def v46 (f : Y46) (w : List Vr) : Rs := f (vI w 0) (vI w 1) (vI w 2) (vI w 3) (vS w 4) (vL w 5) (vI w 6) (vI w 7) (vI w 8) (vI w 9) (vS w 10) (vL w 11)
def th46 := fun xs => gOf zr46 zo46 (argsT A46 (v46 tu46) xs)
def tu10 := U t10
theorem ue10 : tu10 = t10 := U_eq _
theorem te10 : ta10 tu17 tu26 tu27 tu43 tu44 tu45 tu46 = t10 := by rw [ue17, ue26, ue27, ue43, ue44, ue45, ue46]; rfl
def v10 (f : Y10) (w : List Vr) : Rs := f (vL w 0)
def th10 := fun xs => gOf zr10 zo10 (argsT A10 (v10 tu10) xs)
def sg43 : Sig := ⟨[.bor], .sc [.one (.b false)], [0, 2], []⟩
def sg72 : Sig := ⟨[.bor], .nptr [none, none, none], [0, 2, 3, 4, 15], []⟩
def sg93 : Sig := ⟨[.ptr [none, none, none]], .sc [.one (.i .i64 0)], [0, 2, 3, 34], [(2, dr 0 13), (3, dr 0 10), (4, dr 0 14 ++ [(14, 1, [])])]⟩
def sg79 : Sig := ⟨[.ptr [none, none, none], .bor], .sc [.one (.i .i64 0)], [0, 1, 4, 5, 6, 7, 8, 10, 12], []⟩
def sg74 : Sig := ⟨[.ptr [none, none, none], .bor], .sc [.one (.b false)], [0, 1, 4], []⟩
def sg92 : Sig := ⟨[.ptr [none, none, none], .bor], .sc [.one (.s ⟨#[]⟩)], [0, 1, 4, 5, 6, 7, 8, 17, 23, 27], []⟩
def sg96 : Sig := ⟨[.ptr [none, none, none], .bor, .bor, .bor], .fresh [[some (90, 2)]], [0, 1, 2, 3, 8, 9, 10, 17, 30, 35], []⟩
def sg91 : Sig := ⟨[.ptr [none, none, none]], .fresh [[none, none, none, none, none, some (90, 2)]], [0, 2, 3, 4, 17, 44, 60, 68], [(3, [(0, 0, [])] ++ dr 3 3 ++ [(8, 0, []), (1, 1, [3, 4, 5, 8]), (2, 0, []), (6, 1, [8, 2]), (7, 0, []), (9, 1, [2, 7]), (10, 0, []), (11, 0, []), (12, 1, [])]), (6, dr 0 5 ++ [(5, 1, [0, 1, 2, 3])] ++ dr 6 3 ++ [(9, 1, [])])]⟩
def sg81 : Sig := ⟨[.ptr [none, none, none], .bor], .sc [.one (.i .i64 0)], [0, 1, 4], []⟩
def sg73 : Sig := ⟨[.ptr [none, none, none]], .fresh [[none, none, none, none, none, some (90, 2)]], [0, 2, 3, 7, 9, 16, 22, 28, 35, 42], [(14, dr 0 3 ++ [(3, 1, [0, 1]), (4, 0, []), (5, 0, []), (6, 1, [0, 1]), (7, 1, []), (8, 0, []), (9, 1, [])]), (1000014, [(3200, 0, [])])]⟩
def sg53 : Sig := ⟨[.bor], .fresh [[none, none, none, none, none, some (90, 2)]], [0, 1, 2], []⟩
def sg75 : Sig := ⟨[.ptr [none, none, none], .bor], .fresh [[none, none, none, none, none, some (90, 2)]], [0, 1, 3, 4, 5, 6, 7, 8, 17, 32, 42, 64, 82, 86, 121], [(9, [(10, 2, [])] ++ dr 0 8 ++ [(8, 1, [0, 1, 2, 3, 4, 5, 6]), (9, 0, []), (11, 1, [])]), (17, dr 0 7 ++ [(7, 1, [0, 1]), (8, 1, []), (9, 0, []), (10, 1, [])]), (21, dr 0 5 ++ [(5, 1, [0, 1, 2, 3]), (6, 0, []), (7, 1, [0, 1]), (8, 1, []), (9, 0, []), (10, 1, [])])]⟩
def sg44 : Sig := ⟨[.bor], .fresh [[none, none, none, none, none, some (90, 2)], [none, none, none, none, none, some (90, 2)]], [0, 2, 3, 4, 5, 11], [(4, [(0, 0, []), (1, 0, []), (2, 1, [0]), (3, 1, []), (4, 1, [])]), (5, dr 0 3 ++ [(3, 1, [0]), (4, 1, []), (5, 1, [])])]⟩
def sg76 : Sig := ⟨[.bor, .bor, .bor], .sc [.one (.b false)], [0, 1, 2, 6], []⟩
def sg56 : Sig := ⟨[.bor], .sc [.one (.b false)], [0, 1, 2, 3, 5, 21, 48, 54, 55, 56, 57, 72], []⟩
def sg57 : Sig := ⟨[.bor], .fresh [[none, none, none, none, none, some (90, 2)]], [0, 1, 2], []⟩
def sg45 : Sig := ⟨[.bor], .sc [.one (.b false)], [0, 1, 2, 3, 4, 9, 10, 26, 51, 59], [(5, dr 0 5 ++ [(5, 1, [2, 3]), (6, 0, []), (7, 1, [])]), (8, dr 0 7 ++ [(7, 1, [2, 3, 4, 5]), (8, 0, []), (9, 1, [4, 5]), (10, 0, []), (11, 1, [])]), (14, dr 0 7 ++ [(7, 1, [2, 3, 4, 5]), (8, 0, []), (9, 1, [4, 5]), (10, 0, []), (11, 1, [])])]⟩
def sg95 : Sig := ⟨[.rptr 6], .sc [.one (.i .i64 0), .one (.i .i64 0)], [0, 2, 3, 4, 11], [(3, dr 0 12), (4, dr 0 18)]⟩
def sg88 : Sig := ⟨[.rptr 6, .bor], .sc [.one (.b false)], [0, 1, 3, 4, 5, 6, 13, 14, 48, 73], [(4, dr 0 33), (6, dr 0 24), (8, dr 0 11), (9, dr 0 18)]⟩
def sg58 : Sig := ⟨[.ptr [none, none, none, none, none, some (90, 2)], .bor], .sc [.one (.b false)], [0, 1, 3, 4, 5, 6, 7, 16, 18, 47, 70, 82, 98], [(14, dr 0 10 ++ [(10, 1, [0, 1, 2, 3, 4]), (11, 1, [0]), (12, 0, []), (13, 0, []), (14, 1, [])]), (16, dr 0 10), (5, dr 0 9), (6, dr 0 21)]⟩
def sg90 : Sig := ⟨[.ptr [none, none, none, none, none, some (90, 2), some (38, 5), none], .bor], .sc [], [0, 1, 3], [(1, dr 0 10 ++ [(10, 1, [0])] ++ dr 11 4 ++ [(15, 1, [])]), (2, dr 0 6 ++ [(6, 1, [0, 1, 2, 3, 4]), (7, 1, [0]), (8, 0, []), (9, 0, []), (10, 1, [])])]⟩
def sg66 : Sig := ⟨[.bor, .bor], .fresh [[some (38, 5)], [none]], [0, 1, 2, 3, 4, 5, 6, 7, 8, 9, 25, 37, 80, 90, 103, 104, 105, 106, 137], [(7, dr 0 31), (1000001, [(832, 6, [38, 5])])]⟩
def sg27 : Sig := ⟨[.bor, .bor], .fresh [[some (38, 5)], [none]], [0, 1, 2, 3, 4, 5, 13], []⟩
def sg83 : Sig := ⟨[.bor, .bor, .bor], .sc [.one (.b false)], [0, 1, 2, 6], []⟩
def sg84 : Sig := ⟨[.bor, .bor], .sc [.one (.b false)], [0, 1, 4, 6], []⟩
def sg51 : Sig := ⟨[.bor], .sc [.one (.b false)], [0, 1, 2, 3, 4, 5, 68, 76, 105], []⟩
def sg65 : Sig := ⟨[.bor, .bor, .bor], .fresh [[some (90, 2)]], [0, 1, 2, 3, 6, 7, 32], []⟩
def sg85 : Sig := ⟨[.bor], .sc [.one (.b false)], [0, 1, 2, 4, 5, 25, 46, 66], []⟩
def sg94 : Sig := ⟨[.bor], .sc [.one (.i .i64 0)], [0, 1, 2, 6], []⟩
def sg86 : Sig := ⟨[.bor, .bor], .sc [.one (.b false)], [0, 1, 2, 3, 4, 5, 14, 15, 41, 68, 82], [(6, dr 0 26)]⟩
def sg52 : Sig := ⟨[.own [none, none, none, none, none, some (90, 2)], .bor], .fresh [[none, none, none, none, none, some (90, 2)], [none]], [0, 1, 2, 3, 4, 5, 14, 17, 33, 41, 53], []⟩
def sg26 : Sig := ⟨[.bor, .bor], .fresh [[some (38, 5)], [none]], [0, 1, 2, 3, 4, 5, 6, 7, 8, 9, 10, 11, 12, 13, 14, 23, 37, 52, 96, 102, 118, 145, 152, 165], [(12, dr 0 23), (19, dr 0 20 ++ [(20, 1, [0]), (21, 1, []), (22, 1, [])]), (26, [(9, 2, [])] ++ dr 0 5 ++ [(5, 1, [])] ++ dr 6 3 ++ [(10, 1, [8]), (11, 0, [])]), (1000006, [(2816, 0, [])]), (1000014, [(4096, 0, [])]), (1000015, [(4096, 0, []), (7104, 0, [])])]⟩
def sg17 : Sig := ⟨[.bor, .bor], .fresh [[none, none, none, none, none, some (90, 2)], [none]], [0, 1, 2, 3, 4, 5, 6, 7, 10], []⟩
def sg77 : Sig := ⟨[.bor, .bor], .sc [.one (.b false)], [0, 1, 4, 5, 10, 14, 25], [(6, dr 0 9)]⟩
def sg46 : Sig := ⟨[.bor, .bor], .sc [.one (.b false)], [0, 1, 2, 3, 4], []⟩
def sg10 : Sig := ⟨[.bor], .sc [.one (.b false)], [0, 2, 3, 4, 5, 6, 8, 9, 10, 11, 12, 13, 14, 16, 36, 38, 46, 67], [(14, [(9, 2, [])] ++ dr 0 5 ++ [(5, 1, [])] ++ dr 6 3 ++ [(10, 1, [8]), (11, 0, [])]), (3000017, [(36870, 0, [])]), (2000000, [(36870, 0, [])])]⟩
def sig : Nat → Sig := lkF ⟨[], .fresh [], [], []⟩ [(43, sg43), (72, sg72), (93, sg93), (79, sg79), (74, sg74), (92, sg92), (96, sg96), (91, sg91), (81, sg81), (73, sg73), (53, sg53), (75, sg75), (44, sg44), (76, sg76), (56, sg56), (57, sg57), (45, sg45), (95, sg95), (88, sg88), (58, sg58), (90, sg90), (66, sg66), (27, sg27), (83, sg83), (84, sg84), (51, sg51), (65, sg65), (85, sg85), (94, sg94), (86, sg86), (52, sg52), (26, sg26), (17, sg17), (77, sg77), (46, sg46), (10, sg10)]
def dep : Nat → Nat := lkF 0 [(43, 1), (72, 1), (93, 1), (79, 2), (74, 3), (92, 3), (96, 4), (91, 5), (81, 3), (73, 6), (53, 1), (75, 4), (44, 7), (76, 1), (56, 2), (57, 1), (45, 2), (95, 1), (88, 2), (58, 3), (90, 4), (66, 5), (27, 6), (83, 1), (84, 2), (51, 3), (65, 1), (85, 2), (94, 1), (86, 2), (52, 3), (26, 4), (17, 4), (77, 1), (46, 2), (10, 8)]
def gT : List (Nat × (List DV → Bool × List DV × List (List D))) := [(43, th43), (72, th72), (93, th93), (79, th79), (74, th74), (92, th92), (96, th96), (91, th91), (81, th81), (73, th73), (53, th53), (75, th75), (44, th44), (76, th76), (56, th56), (57, th57), (45, th45), (95, th95), (88, th88), (58, th58), (90, th90), (66, th66), (27, th27), (83, th83), (84, th84), (51, th51), (65, th65), (85, th85), (94, th94), (86, th86), (52, th52), (26, th26), (17, th17), (77, th77), (46, th46), (10, th10)]
def G : Nat → List DV → Bool × List DV × List (List D) := lkF (fun _ => (false, [], [])) gT
noncomputable def mkC (f : Nat) : Ctx := ⟨Try.prog, sig, Gd G dep (dep f), (sig f).keep, (sig f).ord⟩
noncomputable def gc (f : Func) : Code := f.body.getD .skip
noncomputable def bd (c : Code) (n : Nat) : Code := match nodeAt c n with | some (.loop a) => a | _ => .skip
def Rp (tw : List Vr → Rs) (C : Ctx) (S : LT) (fn : Func) (sg : Sig) (c : Code) (A : List TA) : Prop := ∀ w, tw w = bodyK C (lkS S) fn sg c (fillAs A 0 w)
theorem okM {Y : Type} {f : Nat} {fn : Func} {S : LT} {A : List TA} {v : Y → List Vr → Rs} {a t u : Y} {c : Code} {zr : List DV} {zo : List (List D)} (r : Rp (v a) (mkC f) S fn (sig f) c A) (hf : Try.prog.funcs[f]? = some fn) (hb : fn.body = some c) (hs : AllS (mkC f) KK c 0 S) (e : a = t) (hu : u = t) : OkS sig (Gd G dep (dep f)) f (fun xs => gOf zr zo (argsT A (v u) xs)) := fun xs q h => body_ok hf hb A (v a) (sums_of hs) r (by rw [e, ← hu]; exact opt_gOf h)
def C43 := mkC 43
def c43 := gc Try.f43
def ST43 : LT := []
theorem r43 : Rp (v43 t43) C43 ST43 Try.f43 (sig 43) c43 A43 := fun w => by kernel_rfl
theorem ok43 : OkS sig (Gd G dep (dep 43)) 43 th43 := okM (v := v43) r43 Try.func43 rfl trivial te43 ue43
def C72 := mkC 72
def c72 := gc Try.f72
def T72o0 : TSt := ⟨[dL, .nilp, dI, dI, .any], []⟩
def X72o0e1 : TSt := ⟨[dL, .nilp, dI, dI, dB], []⟩
def L72o0 (m : Nat) (w : List Vr) (K : KT) : Rs := l72o0 (vL w 0) (fun n13 n14 b15 => K (.exit 0) (fillS X72o0e1 [jL w 0, .i n13, .i n14, .b b15])) m (vI w 1) (vI w 2) (vV w 3)
def ST72 : LT := [(0, sumT T72o0 (L72o0 KK))]
def b72o0 := bd c72 0
theorem q72o0 : Qp L72o0 C72 ST72 b72o0 1 T72o0 := fun m w K => by kernel_rfl
theorem o72o0 : SumOk C72 KK (sumT T72o0 (L72o0 KK)) (.loop b72o0) := loop_ok T72o0 L72o0 (sums_of (t := ST72) ⟨fun _ _ h => absurd h (by decide), trivial⟩) (fun _ _ => rfl) q72o0
theorem r72 : Rp (v72 t72) C72 ST72 Try.f72 (sig 72) c72 A72 := fun w => by kernel_rfl
theorem ok72 : OkS sig (Gd G dep (dep 72)) 72 th72 := okM (v := v72) r72 Try.func72 rfl ⟨sum_in (c' := .loop b72o0) (by kernel_rfl) (o72o0), trivial⟩ te72 ue72
def C93 := mkC 93
def c93 := gc Try.f93
def ST93 : LT := []
theorem r93 : Rp (v93 t93) C93 ST93 Try.f93 (sig 93) c93 A93 := fun w => by kernel_rfl
theorem ok93 : OkS sig (Gd G dep (dep 93)) 93 th93 := okM (v := v93) r93 Try.func93 rfl trivial te93 ue93
def C79 := mkC 79
def c79 := gc Try.f79
def ST79 : LT := []
theorem r79 : Rp (v79 (ta79 tu93)) C79 ST79 Try.f79 (sig 79) c79 A79 := fun w => by kernel_rfl
theorem ok79 : OkS sig (Gd G dep (dep 79)) 79 th79 := okM (v := v79) r79 Try.func79 rfl trivial te79 ue79
def C74 := mkC 74
def c74 := gc Try.f74
def ST74 : LT := []
theorem r74 : Rp (v74 (ta74 tu79)) C74 ST74 Try.f74 (sig 74) c74 A74 := fun w => by kernel_rfl
theorem ok74 : OkS sig (Gd G dep (dep 74)) 74 th74 := okM (v := v74) r74 Try.func74 rfl trivial te74 ue74
def C92 := mkC 92
def c92 := gc Try.f92
def T92o0 : TSt := ⟨[.ptr 0 0, dI, dS, .own 576, dI, dI, .any, .any, .any, .any], [bn0, (576, .row 5 1)]⟩
def X92o0e1 : TSt := ⟨[.ptr 0 0, dI, dS, .own 576, dI, dI, .any, dB, .any, .any], [bn0, (576, .row 5 1)]⟩
def L92o0 (m : Nat) (w : List Vr) (K : KT) : Rs := la92o0 tu79 tu93 (vI w 0) (vS w 1) (vI w 2) (vL w 8) (fun n41 v42 b43 v44 v45 n46 n47 l48 => K (.exit 0) (fillS X92o0e1 [jI w 0, jS w 1, jI w 2, .i n41, .v v42, .b b43, .v v44, .v v45, jL w 8, .i n46, .i n47, .l l48])) m (vI w 3) (vV w 4) (vV w 5) (vV w 6) (vV w 7) (vI w 9) (vI w 10) (vL w 11)
def ST92 : LT := [(0, sumT T92o0 (L92o0 KK))]
def b92o0 := bd c92 0
theorem q92o0 : Qp L92o0 C92 ST92 b92o0 1 T92o0 := fun m w K => by kernel_rfl
theorem o92o0 : SumOk C92 KK (sumT T92o0 (L92o0 KK)) (.loop b92o0) := loop_ok T92o0 L92o0 (sums_of (t := ST92) ⟨fun _ _ h => absurd h (by decide), trivial⟩) (fun _ _ => rfl) q92o0
theorem r92 : Rp (v92 (ta92 tu79 tu93)) C92 ST92 Try.f92 (sig 92) c92 A92 := fun w => by kernel_rfl
theorem ok92 : OkS sig (Gd G dep (dep 92)) 92 th92 := okM (v := v92) r92 Try.func92 rfl ⟨sum_in (c' := .loop b92o0) (by kernel_rfl) (o92o0), trivial⟩ te92 ue92
def C96 := mkC 96
def c96 := gc Try.f96
def T96o0 : TSt := ⟨[.ptr 0 0, dI, dI, dI, .nils, .own 704, dI, .any, .any, .any], [bn0, (704, .row 90 2)]⟩
def X96o0e1 : TSt := ⟨[.ptr 0 0, dI, dI, dI, .own 704, .own 704, dI, dB, dB, dB], [bn0, (704, .row 90 2)]⟩
def X96o0e2 : TSt := ⟨[.ptr 0 0, dI, dI, dI, .nils, .own 704, dI, dB, .any, .any], [bn0, (704, .row 90 2)]⟩
def L96o0 (m : Nat) (w : List Vr) (K : KT) : Rs := la96o0 tu74 tu79 tu92 (vI w 0) (vI w 2) (vL w 7) (fun n52 n53 b54 b55 b56 n57 n58 l59 => K .ret (fillS X96o0e1 [jI w 0, .i n52, jI w 2, .i n53, .b b54, .b b55, .b b56, jL w 7, .i n57, .i n58, .l l59])) (fun n60 n61 b62 v63 v64 n65 n66 l67 => K (.exit 0) (fillS X96o0e2 [jI w 0, .i n60, jI w 2, .i n61, .b b62, .v v63, .v v64, jL w 7, .i n65, .i n66, .l l67])) m (vI w 1) (vI w 3) (vV w 4) (vV w 5) (vV w 6) (vI w 8) (vI w 9) (vL w 10)
def ST96 : LT := [(0, sumT T96o0 (L96o0 KK))]
def b96o0 := bd c96 0
theorem q96o0 : Qp L96o0 C96 ST96 b96o0 1 T96o0 := fun m w K => by kernel_rfl
theorem o96o0 : SumOk C96 KK (sumT T96o0 (L96o0 KK)) (.loop b96o0) := loop_ok T96o0 L96o0 (sums_of (t := ST96) ⟨fun _ _ h => absurd h (by decide), trivial⟩) (fun _ _ => rfl) q96o0
theorem r96 : Rp (v96 (ta96 tu74 tu79 tu92)) C96 ST96 Try.f96 (sig 96) c96 A96 := fun w => by kernel_rfl
theorem ok96 : OkS sig (Gd G dep (dep 96)) 96 th96 := okM (v := v96) r96 Try.func96 rfl ⟨sum_in (c' := .loop b96o0) (by kernel_rfl) (o96o0), trivial⟩ te96 ue96
def C91 := mkC 91
def c91 := gc Try.f91
def T91o3 : TSt := ⟨[.ptr 0 0, .ptr 128 0, .ptr 192 0, dI, dB, dB, dB, .any], [bn0, (128, bx1), bn2, (12294, .row 90 2)]⟩
def X91o3e1 : TSt := ⟨[.ptr 0 0, .ptr 128 0, .ptr 192 0, dI, dB, dB, dB, dB], [bn0, (128, bx1), bn2, (12294, .row 90 2)]⟩
def L91o3 (m : Nat) (w : List Vr) (K : KT) : Rs := la91o3 tu74 tu79 tu92 tu96 (vI w 0) (vB w 1) (vB w 2) (vB w 3) (vL w 5) (vI w 6) (vI w 7) (vI w 8) (vI w 9) (vI w 10) (vI w 11) (vS w 12) (vI w 13) (vI w 14) (vI w 15) (vI w 16) (vS w 17) (fun b70 l71 => K (.exit 0) (fillS X91o3e1 [jI w 0, jB w 1, jB w 2, jB w 3, .b b70, jL w 5, jI w 6, jI w 7, jI w 8, jI w 9, jI w 10, jI w 11, jS w 12, jI w 13, jI w 14, jI w 15, jI w 16, jS w 17, .l l71])) m (vV w 4) (vL w 18)
def ST91 : LT := [(3, sumT T91o3 (L91o3 KK))]
def b91o3 := bd c91 3
theorem q91o3 : Qp L91o3 C91 ST91 b91o3 4 T91o3 := fun m w K => by kernel_rfl
theorem o91o3 : SumOk C91 KK (sumT T91o3 (L91o3 KK)) (.loop b91o3) := loop_ok T91o3 L91o3 (sums_of (t := ST91) ⟨fun _ _ h => absurd h (by decide), trivial⟩) (fun _ _ => rfl) q91o3
theorem r91 : Rp (v91 (ta91 tu74 tu79 tu92 tu96)) C91 ST91 Try.f91 (sig 91) c91 A91 := fun w => by kernel_rfl
theorem ok91 : OkS sig (Gd G dep (dep 91)) 91 th91 := okM (v := v91) r91 Try.func91 rfl ⟨sum_in (c' := .loop b91o3) (by kernel_rfl) (o91o3), trivial⟩ te91 ue91
def C81 := mkC 81
def c81 := gc Try.f81
def ST81 : LT := []
theorem r81 : Rp (v81 (ta81 tu79)) C81 ST81 Try.f81 (sig 81) c81 A81 := fun w => by kernel_rfl
theorem ok81 : OkS sig (Gd G dep (dep 81)) 81 th81 := okM (v := v81) r81 Try.func81 rfl trivial te81 ue81
def C73 := mkC 73
def c73 := gc Try.f73
def ST73 : LT := []
theorem r73 : Rp (v73 (ta73 tu74 tu79 tu81 tu91)) C73 ST73 Try.f73 (sig 73) c73 A73 := fun w => by kernel_rfl
theorem ok73 : OkS sig (Gd G dep (dep 73)) 73 th73 := okM (v := v73) r73 Try.func73 rfl trivial te73 ue73
def C53 := mkC 53
def c53 := gc Try.f53
def ST53 : LT := []
theorem r53 : Rp (v53 t53) C53 ST53 Try.f53 (sig 53) c53 A53 := fun w => by kernel_rfl
theorem ok53 : OkS sig (Gd G dep (dep 53)) 53 th53 := okM (v := v53) r53 Try.func53 rfl trivial te53 ue53
def C75 := mkC 75
def c75 := gc Try.f75
def T75o6 : TSt := ⟨[.ptr 0 0, ag0, .ptr 192 0, .ptr 256 0, .ptr 320 0, dI, .ptr 448 0, dI, dB, dB, dB, dB, dB, dB, .any], [bn0, bn3, bn4, bn6, bn7, (20486, .row 90 2)]⟩
def X75o6e1 : TSt := ⟨[.ptr 0 0, ag0, .ptr 192 0, .ptr 256 0, .ptr 320 0, dI, .ptr 448 0, dI, dB, dB, dB, dB, dB, dB, dB], [bn0, bn3, bn4, bn6, bn7, (20486, .row 90 2)]⟩
def L75o6 (m : Nat) (w : List Vr) (K : KT) : Rs := la75o6 tu53 tu74 tu79 tu92 (vI w 0) (vI w 1) (vI w 2) (vI w 3) (vS w 4) (vL w 5) (vI w 6) (vB w 8) (vB w 9) (vB w 10) (vB w 11) (vB w 12) (vB w 13) (vL w 15) (vI w 18) (vI w 19) (vI w 20) (vI w 21) (vS w 22) (vL w 23) (vI w 24) (vI w 25) (vI w 26) (vI w 27) (vS w 28) (vI w 29) (vI w 30) (vI w 31) (vI w 32) (vS w 33) (vI w 34) (vI w 35) (vS w 36) (fun n139 b140 n141 n142 l143 => K (.exit 0) (fillS X75o6e1 [jI w 0, jI w 1, jI w 2, jI w 3, jS w 4, jL w 5, jI w 6, .i n139, jB w 8, jB w 9, jB w 10, jB w 11, jB w 12, jB w 13, .b b140, jL w 15, .i n141, .i n142, jI w 18, jI w 19, jI w 20, jI w 21, jS w 22, jL w 23, jI w 24, jI w 25, jI w 26, jI w 27, jS w 28, jI w 29, jI w 30, jI w 31, jI w 32, jS w 33, jI w 34, jI w 35, jS w 36, .l l143])) m (vI w 7) (vV w 14) (vI w 16) (vI w 17) (vL w 37)
def T75o100006 : TSt := ⟨[.ptr 0 0, ag0, .ptr 192 0, .ptr 256 0, .ptr 320 0, dI, .ptr 448 0, dI, dB, dB, dB, dB, dB, dB, .any], [bn0, bn3, bn4, (320, bx7), bn7, (4992, .row 90 2), (20486, .row 90 2)]⟩
def X75o100006e1 : TSt := ⟨[.ptr 0 0, ag0, .ptr 192 0, .ptr 256 0, .ptr 320 0, dI, .ptr 448 0, dI, dB, dB, dB, dB, dB, dB, dB], [bn0, bn3, bn4, (320, bx7), bn7, (4992, .row 90 2), (20486, .row 90 2)]⟩
def L75o100006 (m : Nat) (w : List Vr) (K : KT) : Rs := la75o100006 tu53 tu74 tu79 tu92 (vI w 0) (vI w 1) (vI w 2) (vI w 3) (vS w 4) (vL w 5) (vI w 6) (vB w 8) (vB w 9) (vB w 10) (vB w 11) (vB w 12) (vB w 13) (vL w 15) (vI w 18) (vI w 19) (vI w 20) (vI w 21) (vS w 22) (vL w 23) (vI w 24) (vI w 25) (vI w 26) (vI w 27) (vS w 28) (vI w 29) (vI w 30) (vI w 31) (vI w 32) (vS w 33) (vI w 34) (vI w 35) (vS w 36) (vL w 38) (fun n268 b269 n270 n271 l272 => K (.exit 0) (fillS X75o100006e1 [jI w 0, jI w 1, jI w 2, jI w 3, jS w 4, jL w 5, jI w 6, .i n268, jB w 8, jB w 9, jB w 10, jB w 11, jB w 12, jB w 13, .b b269, jL w 15, .i n270, .i n271, jI w 18, jI w 19, jI w 20, jI w 21, jS w 22, jL w 23, jI w 24, jI w 25, jI w 26, jI w 27, jS w 28, jI w 29, jI w 30, jI w 31, jI w 32, jS w 33, jI w 34, jI w 35, jS w 36, .l l272, jL w 38])) m (vI w 7) (vV w 14) (vI w 16) (vI w 17) (vL w 37)
def T75o200006 : TSt := ⟨[.ptr 0 0, ag0, .ptr 192 0, .ptr 256 0, .ptr 320 0, .undef, .undef, dI, dB, dB, dB, .undef, .undef, dB, .any], [bn0, bn3, bn4, bn6, (20486, .row 90 2)]⟩
def X75o200006e1 : TSt := ⟨[.ptr 0 0, ag0, .ptr 192 0, .ptr 256 0, .ptr 320 0, .undef, .undef, dI, dB, dB, dB, .undef, .undef, dB, dB], [bn0, bn3, bn4, bn6, (20486, .row 90 2)]⟩
def L75o200006 (m : Nat) (w : List Vr) (K : KT) : Rs := la75o200006 tu53 tu74 tu79 tu92 (vI w 0) (vI w 1) (vI w 2) (vI w 3) (vS w 4) (vL w 5) (vB w 7) (vB w 8) (vB w 9) (vB w 10) (vL w 12) (vI w 15) (vI w 16) (vI w 17) (vI w 18) (vS w 19) (vL w 20) (vI w 21) (vI w 22) (vI w 23) (vI w 24) (vS w 25) (vI w 26) (vI w 27) (vI w 28) (vI w 29) (vS w 30) (fun n376 b377 n378 n379 l380 => K (.exit 0) (fillS X75o200006e1 [jI w 0, jI w 1, jI w 2, jI w 3, jS w 4, jL w 5, .i n376, jB w 7, jB w 8, jB w 9, jB w 10, .b b377, jL w 12, .i n378, .i n379, jI w 15, jI w 16, jI w 17, jI w 18, jS w 19, jL w 20, jI w 21, jI w 22, jI w 23, jI w 24, jS w 25, jI w 26, jI w 27, jI w 28, jI w 29, jS w 30, .l l380])) m (vI w 6) (vV w 11) (vI w 13) (vI w 14) (vL w 31)
def T75o300006 : TSt := ⟨[.ptr 0 0, ag0, .ptr 192 0, .ptr 256 0, .ptr 320 0, dI, .ptr 448 0, dI, dB, .undef, dB, dB, dB, dB, .any], [bn0, bn3, bn4, bn6, bn7, (20486, .row 90 2)]⟩
def X75o300006e1 : TSt := ⟨[.ptr 0 0, ag0, .ptr 192 0, .ptr 256 0, .ptr 320 0, dI, .ptr 448 0, dI, dB, .undef, dB, dB, dB, dB, dB], [bn0, bn3, bn4, bn6, bn7, (20486, .row 90 2)]⟩
def L75o300006 (m : Nat) (w : List Vr) (K : KT) : Rs := la75o300006 tu53 tu74 tu79 tu92 (vI w 0) (vI w 1) (vI w 2) (vI w 3) (vS w 4) (vL w 5) (vI w 6) (vB w 8) (vB w 9) (vB w 10) (vB w 11) (vB w 12) (vL w 14) (vI w 17) (vI w 18) (vI w 19) (vI w 20) (vS w 21) (vL w 22) (vI w 23) (vI w 24) (vI w 25) (vI w 26) (vS w 27) (vI w 28) (vI w 29) (vI w 30) (vI w 31) (vS w 32) (vI w 33) (vI w 34) (vS w 35) (fun n613 b614 n615 n616 l617 => K (.exit 0) (fillS X75o300006e1 [jI w 0, jI w 1, jI w 2, jI w 3, jS w 4, jL w 5, jI w 6, .i n613, jB w 8, jB w 9, jB w 10, jB w 11, jB w 12, .b b614, jL w 14, .i n615, .i n616, jI w 17, jI w 18, jI w 19, jI w 20, jS w 21, jL w 22, jI w 23, jI w 24, jI w 25, jI w 26, jS w 27, jI w 28, jI w 29, jI w 30, jI w 31, jS w 32, jI w 33, jI w 34, jS w 35, .l l617])) m (vI w 7) (vV w 13) (vI w 15) (vI w 16) (vL w 36)
def T75o400006 : TSt := ⟨[.ptr 0 0, ag0, .ptr 192 0, .ptr 256 0, .ptr 320 0, dI, .ptr 448 0, dI, dB, .undef, dB, dB, dB, dB, .any], [bn0, bn3, bn4, (320, bx7), bn7, (4992, .row 90 2), (20486, .row 90 2)]⟩
def X75o400006e1 : TSt := ⟨[.ptr 0 0, ag0, .ptr 192 0, .ptr 256 0, .ptr 320 0, dI, .ptr 448 0, dI, dB, .undef, dB, dB, dB, dB, dB], [bn0, bn3, bn4, (320, bx7), bn7, (4992, .row 90 2), (20486, .row 90 2)]⟩
def L75o400006 (m : Nat) (w : List Vr) (K : KT) : Rs := la75o400006 tu53 tu74 tu79 tu92 (vI w 0) (vI w 1) (vI w 2) (vI w 3) (vS w 4) (vL w 5) (vI w 6) (vB w 8) (vB w 9) (vB w 10) (vB w 11) (vB w 12) (vL w 14) (vI w 17) (vI w 18) (vI w 19) (vI w 20) (vS w 21) (vL w 22) (vI w 23) (vI w 24) (vI w 25) (vI w 26) (vS w 27) (vI w 28) (vI w 29) (vI w 30) (vI w 31) (vS w 32) (vI w 33) (vI w 34) (vS w 35) (vL w 37) (fun n739 b740 n741 n742 l743 => K (.exit 0) (fillS X75o400006e1 [jI w 0, jI w 1, jI w 2, jI w 3, jS w 4, jL w 5, jI w 6, .i n739, jB w 8, jB w 9, jB w 10, jB w 11, jB w 12, .b b740, jL w 14, .i n741, .i n742, jI w 17, jI w 18, jI w 19, jI w 20, jS w 21, jL w 22, jI w 23, jI w 24, jI w 25, jI w 26, jS w 27, jI w 28, jI w 29, jI w 30, jI w 31, jS w 32, jI w 33, jI w 34, jS w 35, .l l743, jL w 37])) m (vI w 7) (vV w 13) (vI w 15) (vI w 16) (vL w 36)
def T75o500006 : TSt := ⟨[.ptr 0 0, ag0, .ptr 192 0, .ptr 256 0, .ptr 320 0, .undef, .undef, dI, dB, .undef, dB, .undef, .undef, dB, .any], [bn0, bn3, bn4, bn6, (20486, .row 90 2)]⟩
def X75o500006e1 : TSt := ⟨[.ptr 0 0, ag0, .ptr 192 0, .ptr 256 0, .ptr 320 0, .undef, .undef, dI, dB, .undef, dB, .undef, .undef, dB, dB], [bn0, bn3, bn4, bn6, (20486, .row 90 2)]⟩
def L75o500006 (m : Nat) (w : List Vr) (K : KT) : Rs := la75o500006 tu53 tu74 tu79 tu92 (vI w 0) (vI w 1) (vI w 2) (vI w 3) (vS w 4) (vL w 5) (vB w 7) (vB w 8) (vB w 9) (vL w 11) (vI w 14) (vI w 15) (vI w 16) (vI w 17) (vS w 18) (vL w 19) (vI w 20) (vI w 21) (vI w 22) (vI w 23) (vS w 24) (vI w 25) (vI w 26) (vI w 27) (vI w 28) (vS w 29) (fun n844 b845 n846 n847 l848 => K (.exit 0) (fillS X75o500006e1 [jI w 0, jI w 1, jI w 2, jI w 3, jS w 4, jL w 5, .i n844, jB w 7, jB w 8, jB w 9, .b b845, jL w 11, .i n846, .i n847, jI w 14, jI w 15, jI w 16, jI w 17, jS w 18, jL w 19, jI w 20, jI w 21, jI w 22, jI w 23, jS w 24, jI w 25, jI w 26, jI w 27, jI w 28, jS w 29, .l l848])) m (vI w 6) (vV w 10) (vI w 12) (vI w 13) (vL w 30)
def ST75 : LT := [(6, altS T75o6 (sumT T75o6 (L75o6 KK)) (altS T75o100006 (sumT T75o100006 (L75o100006 KK)) (altS T75o200006 (sumT T75o200006 (L75o200006 KK)) (altS T75o300006 (sumT T75o300006 (L75o300006 KK)) (altS T75o400006 (sumT T75o400006 (L75o400006 KK)) (sumT T75o500006 (L75o500006 KK)))))))]
def b75o6 := bd c75 6
theorem q75o6 : Qp L75o6 C75 ST75 b75o6 7 T75o6 := fun m w K => by kernel_rfl
theorem o75o6 : SumOk C75 KK (sumT T75o6 (L75o6 KK)) (.loop b75o6) := loop_ok T75o6 L75o6 (sums_of (t := ST75) ⟨fun _ _ h => absurd h (by decide), trivial⟩) (fun _ _ => rfl) q75o6
theorem q75o100006 : Qp L75o100006 C75 ST75 b75o6 7 T75o100006 := fun m w K => by kernel_rfl
theorem o75o100006 : SumOk C75 KK (sumT T75o100006 (L75o100006 KK)) (.loop b75o6) := loop_ok T75o100006 L75o100006 (sums_of (t := ST75) ⟨fun _ _ h => absurd h (by decide), trivial⟩) (fun _ _ => rfl) q75o100006
theorem q75o200006 : Qp L75o200006 C75 ST75 b75o6 7 T75o200006 := fun m w K => by kernel_rfl
theorem o75o200006 : SumOk C75 KK (sumT T75o200006 (L75o200006 KK)) (.loop b75o6) := loop_ok T75o200006 L75o200006 (sums_of (t := ST75) ⟨fun _ _ h => absurd h (by decide), trivial⟩) (fun _ _ => rfl) q75o200006
theorem q75o300006 : Qp L75o300006 C75 ST75 b75o6 7 T75o300006 := fun m w K => by kernel_rfl
theorem o75o300006 : SumOk C75 KK (sumT T75o300006 (L75o300006 KK)) (.loop b75o6) := loop_ok T75o300006 L75o300006 (sums_of (t := ST75) ⟨fun _ _ h => absurd h (by decide), trivial⟩) (fun _ _ => rfl) q75o300006
theorem q75o400006 : Qp L75o400006 C75 ST75 b75o6 7 T75o400006 := fun m w K => by kernel_rfl
theorem o75o400006 : SumOk C75 KK (sumT T75o400006 (L75o400006 KK)) (.loop b75o6) := loop_ok T75o400006 L75o400006 (sums_of (t := ST75) ⟨fun _ _ h => absurd h (by decide), trivial⟩) (fun _ _ => rfl) q75o400006
theorem q75o500006 : Qp L75o500006 C75 ST75 b75o6 7 T75o500006 := fun m w K => by kernel_rfl
theorem o75o500006 : SumOk C75 KK (sumT T75o500006 (L75o500006 KK)) (.loop b75o6) := loop_ok T75o500006 L75o500006 (sums_of (t := ST75) ⟨fun _ _ h => absurd h (by decide), trivial⟩) (fun _ _ => rfl) q75o500006
theorem r75 : Rp (v75 (ta75 tu53 tu74 tu79 tu92)) C75 ST75 Try.f75 (sig 75) c75 A75 := fun w => by kernel_rfl
theorem ok75 : OkS sig (Gd G dep (dep 75)) 75 th75 := okM (v := v75) r75 Try.func75 rfl ⟨sum_in (c' := .loop b75o6) (by kernel_rfl) (alt_ok o75o6 (alt_ok o75o100006 (alt_ok o75o200006 (alt_ok o75o300006 (alt_ok o75o400006 (o75o500006)))))), trivial⟩ te75 ue75
def C44 := mkC 44
def c44 := gc Try.f44
def ST44 : LT := []
theorem r44 : Rp (v44 (ta44 tu72 tu73 tu74 tu75)) C44 ST44 Try.f44 (sig 44) c44 A44 := fun w => by kernel_rfl
theorem ok44 : OkS sig (Gd G dep (dep 44)) 44 th44 := okM (v := v44) r44 Try.func44 rfl trivial te44 ue44
def C76 := mkC 76
def c76 := gc Try.f76
def ST76 : LT := []
theorem r76 : Rp (v76 t76) C76 ST76 Try.f76 (sig 76) c76 A76 := fun w => by kernel_rfl
theorem ok76 : OkS sig (Gd G dep (dep 76)) 76 th76 := okM (v := v76) r76 Try.func76 rfl trivial te76 ue76
def C56 := mkC 56
def c56 := gc Try.f56
def T56o2 : TSt := ⟨[ag0, .ptr 64 0, dB, dI, .undef, dB, dB, dL, dI, dI, .any, .any], [(64, bx9)]⟩
def X56o2e1 : TSt := ⟨[ag0, .ptr 64 0, dB, dI, .ptr 320 0, dB, dB, dL, dI, dI, dB, dB], [(64, bx9), (320, .box [dI, dS])]⟩
def X56o2e2 : TSt := ⟨[ag0, .ptr 64 0, dB, dI, .undef, dB, dB, dL, dI, dI, dB, .any], [(64, bx9)]⟩
def L56o2 (m : Nat) (w : List Vr) (K : KT) : Rs := la56o2 tu76 (vI w 0) (vI w 1) (vI w 2) (vI w 3) (vS w 4) (vL w 5) (vB w 6) (vB w 8) (vB w 9) (vL w 10) (vI w 11) (vI w 15) (vI w 16) (vI w 17) (vI w 18) (vS w 19) (vL w 20) (fun n68 n69 b70 b71 n72 s73 => K .ret (fillS X56o2e1 [jI w 0, jI w 1, jI w 2, jI w 3, jS w 4, jL w 5, .b (false), .i n68, jB w 8, jB w 9, jL w 10, jI w 11, .i n69, .b b70, .b b71, jI w 15, jI w 16, jI w 17, jI w 18, jS w 19, jL w 20, .i n72, .s s73])) (fun n74 n75 b76 v77 => K (.exit 0) (fillS X56o2e2 [jI w 0, jI w 1, jI w 2, jI w 3, jS w 4, jL w 5, jB w 6, .i n74, jB w 8, jB w 9, jL w 10, jI w 11, .i n75, .b b76, .v v77, jI w 15, jI w 16, jI w 17, jI w 18, jS w 19, jL w 20])) m (vI w 7) (vI w 12) (vV w 13) (vV w 14)
def ST56 : LT := [(2, sumT T56o2 (L56o2 KK))]
def b56o2 := bd c56 2
theorem q56o2 : Qp L56o2 C56 ST56 b56o2 3 T56o2 := fun m w K => by kernel_rfl
theorem o56o2 : SumOk C56 KK (sumT T56o2 (L56o2 KK)) (.loop b56o2) := loop_ok T56o2 L56o2 (sums_of (t := ST56) ⟨fun _ _ h => absurd h (by decide), trivial⟩) (fun _ _ => rfl) q56o2
theorem r56 : Rp (v56 (ta56 tu76)) C56 ST56 Try.f56 (sig 56) c56 A56 := fun w => by kernel_rfl
theorem ok56 : OkS sig (Gd G dep (dep 56)) 56 th56 := okM (v := v56) r56 Try.func56 rfl ⟨sum_in (c' := .loop b56o2) (by kernel_rfl) (o56o2), trivial⟩ te56 ue56
def C57 := mkC 57
def c57 := gc Try.f57
def ST57 : LT := []
theorem r57 : Rp (v57 t57) C57 ST57 Try.f57 (sig 57) c57 A57 := fun w => by kernel_rfl
theorem ok57 : OkS sig (Gd G dep (dep 57)) 57 th57 := okM (v := v57) r57 Try.func57 rfl trivial te57 ue57
def C45 := mkC 45
def c45 := gc Try.f45
def ST45 : LT := []
theorem r45 : Rp (v45 (ta45 tu76)) C45 ST45 Try.f45 (sig 45) c45 A45 := fun w => by kernel_rfl
theorem ok45 : OkS sig (Gd G dep (dep 45)) 45 th45 := okM (v := v45) r45 Try.func45 rfl trivial te45 ue45
def C95 := mkC 95
def c95 := gc Try.f95
def ST95 : LT := []
theorem r95 : Rp (v95 t95) C95 ST95 Try.f95 (sig 95) c95 A95 := fun w => by kernel_rfl
theorem ok95 : OkS sig (Gd G dep (dep 95)) 95 th95 := okM (v := v95) r95 Try.func95 rfl trivial te95 ue95
def C88 := mkC 88
def c88 := gc Try.f88
def ST88 : LT := []
theorem r88 : Rp (v88 (ta88 tu76 tu95)) C88 ST88 Try.f88 (sig 88) c88 A88 := fun w => by kernel_rfl
theorem ok88 : OkS sig (Gd G dep (dep 88)) 88 th88 := okM (v := v88) r88 Try.func88 rfl trivial te88 ue88
def C58 := mkC 58
def c58 := gc Try.f58
def ST58 : LT := []
theorem r58 : Rp (v58 (ta58 tu45 tu88)) C58 ST58 Try.f58 (sig 58) c58 A58 := fun w => by kernel_rfl
theorem ok58 : OkS sig (Gd G dep (dep 58)) 58 th58 := okM (v := v58) r58 Try.func58 rfl trivial te58 ue58
def C90 := mkC 90
def c90 := gc Try.f90
def ST90 : LT := []
theorem r90 : Rp (v90 (ta90 tu58)) C90 ST90 Try.f90 (sig 90) c90 A90 := fun w => by kernel_rfl
theorem ok90 : OkS sig (Gd G dep (dep 90)) 90 th90 := okM (v := v90) r90 Try.func90 rfl trivial te90 ue90
def C66 := mkC 66
def c66 := gc Try.f66
def T66o5 : TSt := ⟨[ag0, ag0, .ptr 128 0, .ptr 192 0, .nils, dB, .ptr 832 0, dI, .any, .undef, dB, dB, dB, dB, dL, dI, dI, .any, .undef], [bn1, bn3, (832, bx8), (53254, .row 90 2), (53255, .row 38 5)]⟩
def X66o5e1 : TSt := ⟨[ag0, ag0, .ptr 128 0, .ptr 192 0, .nils, dB, .ptr 832 0, dI, .any, .undef, dB, dB, dB, dB, dL, dI, dI, dB, .undef], [bn1, bn3, (832, bx8), (53254, .row 90 2), (53255, .row 38 5)]⟩
def L66o5 (m : Nat) (w : List Vr) (K : KT) : Rs := la66o5 tu57 tu90 (vI w 0) (vI w 1) (vI w 2) (vI w 3) (vS w 4) (vL w 5) (vI w 6) (vI w 7) (vI w 8) (vI w 9) (vS w 10) (vL w 11) (vB w 12) (vI w 13) (vB w 15) (vB w 16) (vB w 17) (vB w 18) (vL w 19) (vI w 20) (vI w 23) (vI w 24) (vI w 25) (vI w 26) (vS w 27) (vL w 28) (vI w 29) (vI w 30) (vI w 31) (vI w 32) (vS w 33) (vL w 34) (fun v278 n279 b280 n281 n282 n283 n284 s285 b286 l287 l288 => K (.exit 2) (fillS X66o5e1 [jI w 0, jI w 1, jI w 2, jI w 3, jS w 4, jL w 5, jI w 6, jI w 7, jI w 8, jI w 9, jS w 10, jL w 11, jB w 12, jI w 13, .v v278, jB w 15, jB w 16, jB w 17, jB w 18, jL w 19, jI w 20, .i n279, .b b280, jI w 23, jI w 24, jI w 25, jI w 26, jS w 27, jL w 28, jI w 29, jI w 30, jI w 31, jI w 32, jS w 33, jL w 34, .i n281, .i n282, .i n283, .i n284, .s s285, .b b286, .l l287, .l l288])) m (vV w 14) (vI w 21) (vV w 22) (vI w 35) (vI w 36) (vI w 37) (vI w 38) (vS w 39) (vB w 40) (vL w 41) (vL w 42)
def T66o2 : TSt := ⟨[ag0, ag0, .ptr 128 0, .ptr 192 0, .nils, dB, .ptr 832 0, dI, .undef, .undef, dB, dB, .any, .undef, .undef, .undef, .undef, .undef, .undef], [bn1, bn3, (832, bx8), (53254, .row 90 2), (53255, .row 38 5)]⟩
def X66o2e1 : TSt := ⟨[ag0, ag0, .ptr 128 0, .ptr 192 0, .nils, dB, .ptr 832 0, dI, .undef, .undef, dB, dB, dB, .undef, .undef, .undef, .undef, .undef, .undef], [bn1, bn3, (832, bx8), (53254, .row 90 2), (53255, .row 38 5)]⟩
def L66o2 (m : Nat) (w : List Vr) (K : KT) : Rs := la66o2 tu57 tu90 (vI w 0) (vI w 1) (vI w 2) (vI w 3) (vS w 4) (vL w 5) (vI w 6) (vI w 7) (vI w 8) (vI w 9) (vS w 10) (vL w 11) (vB w 12) (vB w 14) (vB w 15) (vI w 17) (vI w 18) (vI w 19) (vI w 20) (vS w 21) (vL w 22) (vI w 23) (vI w 24) (vI w 25) (vI w 26) (vS w 27) (vL w 28) (vI w 29) (vI w 30) (vI w 31) (vI w 32) (vS w 33) (vB w 34) (vL w 35) (vL w 36) (fun n139 b140 => K (.exit 0) (fillS X66o2e1 [jI w 0, jI w 1, jI w 2, jI w 3, jS w 4, jL w 5, jI w 6, jI w 7, jI w 8, jI w 9, jS w 10, jL w 11, jB w 12, .i n139, jB w 14, jB w 15, .b b140, jI w 17, jI w 18, jI w 19, jI w 20, jS w 21, jL w 22, jI w 23, jI w 24, jI w 25, jI w 26, jS w 27, jL w 28, jI w 29, jI w 30, jI w 31, jI w 32, jS w 33, jB w 34, jL w 35, jL w 36])) m (vI w 13) (vV w 16)
def ST66 : LT := [(5, sumT T66o5 (L66o5 KK)), (2, sumT T66o2 (L66o2 KK))]
def b66o5 := bd c66 5
def b66o2 := bd c66 2
theorem q66o5 : Qp L66o5 C66 ST66 b66o5 6 T66o5 := fun m w K => by kernel_rfl
theorem o66o5 : SumOk C66 KK (sumT T66o5 (L66o5 KK)) (.loop b66o5) := loop_ok T66o5 L66o5 (sums_of (t := ST66) ⟨fun _ _ h => absurd h (by decide), fun _ _ h => absurd h (by decide), trivial⟩) (fun _ _ => rfl) q66o5
theorem q66o2 : Qp L66o2 C66 ST66 b66o2 3 T66o2 := fun m w K => by kernel_rfl
theorem o66o2 : SumOk C66 KK (sumT T66o2 (L66o2 KK)) (.loop b66o2) := loop_ok T66o2 L66o2 (sums_of (t := ST66) ⟨sum_out (by kernel_rfl), fun _ _ h => absurd h (by decide), trivial⟩) (fun _ _ => rfl) q66o2
theorem r66 : Rp (v66 (ta66 tu57 tu90)) C66 ST66 Try.f66 (sig 66) c66 A66 := fun w => by kernel_rfl
theorem ok66 : OkS sig (Gd G dep (dep 66)) 66 th66 := okM (v := v66) r66 Try.func66 rfl ⟨sum_in (c' := .loop b66o5) (by kernel_rfl) (o66o5), sum_in (c' := .loop b66o2) (by kernel_rfl) (o66o2), trivial⟩ te66 ue66
def C27 := mkC 27
def c27 := gc Try.f27
def ST27 : LT := []
theorem r27 : Rp (v27 (ta27 tu56 tu66)) C27 ST27 Try.f27 (sig 27) c27 A27 := fun w => by kernel_rfl
theorem ok27 : OkS sig (Gd G dep (dep 27)) 27 th27 := okM (v := v27) r27 Try.func27 rfl trivial te27 ue27
def C83 := mkC 83
def c83 := gc Try.f83
def ST83 : LT := []
theorem r83 : Rp (v83 t83) C83 ST83 Try.f83 (sig 83) c83 A83 := fun w => by kernel_rfl
theorem ok83 : OkS sig (Gd G dep (dep 83)) 83 th83 := okM (v := v83) r83 Try.func83 rfl trivial te83 ue83
def C84 := mkC 84
def c84 := gc Try.f84
def ST84 : LT := []
theorem r84 : Rp (v84 (ta84 tu83)) C84 ST84 Try.f84 (sig 84) c84 A84 := fun w => by kernel_rfl
theorem ok84 : OkS sig (Gd G dep (dep 84)) 84 th84 := okM (v := v84) r84 Try.func84 rfl trivial te84 ue84
def C51 := mkC 51
def c51 := gc Try.f51
def T51o1 : TSt := ⟨[ag0, .ptr 64 0, dB, dI, dI, .undef, dB, .any, .any], [(64, bx9)]⟩
def X51o1e1 : TSt := ⟨[ag0, .ptr 64 0, dB, dI, dI, .ptr 320 0, dB, dB, dB], [(64, bx9), (320, .box [dI, dS])]⟩
def X51o1e2 : TSt := ⟨[ag0, .ptr 64 0, dB, dI, dI, .undef, dB, dB, .any], [(64, bx9)]⟩
def L51o1 (m : Nat) (w : List Vr) (K : KT) : Rs := la51o1 tu83 tu84 (vI w 0) (vI w 1) (vI w 2) (vI w 3) (vS w 4) (vL w 5) (vB w 6) (vB w 9) (vI w 12) (vI w 13) (vI w 14) (vI w 15) (vS w 16) (vL w 17) (fun n59 n60 b61 b62 n63 s64 => K .ret (fillS X51o1e1 [jI w 0, jI w 1, jI w 2, jI w 3, jS w 4, jL w 5, .b (false), .i n59, .i n60, jB w 9, .b b61, .b b62, jI w 12, jI w 13, jI w 14, jI w 15, jS w 16, jL w 17, .i n63, .s s64])) (fun n65 n66 b67 v68 => K (.exit 0) (fillS X51o1e2 [jI w 0, jI w 1, jI w 2, jI w 3, jS w 4, jL w 5, jB w 6, .i n65, .i n66, jB w 9, .b b67, .v v68, jI w 12, jI w 13, jI w 14, jI w 15, jS w 16, jL w 17])) m (vI w 7) (vI w 8) (vV w 10) (vV w 11)
def ST51 : LT := [(1, sumT T51o1 (L51o1 KK))]
def b51o1 := bd c51 1
theorem q51o1 : Qp L51o1 C51 ST51 b51o1 2 T51o1 := fun m w K => by kernel_rfl
theorem o51o1 : SumOk C51 KK (sumT T51o1 (L51o1 KK)) (.loop b51o1) := loop_ok T51o1 L51o1 (sums_of (t := ST51) ⟨fun _ _ h => absurd h (by decide), trivial⟩) (fun _ _ => rfl) q51o1
theorem r51 : Rp (v51 (ta51 tu83 tu84)) C51 ST51 Try.f51 (sig 51) c51 A51 := fun w => by kernel_rfl
theorem ok51 : OkS sig (Gd G dep (dep 51)) 51 th51 := okM (v := v51) r51 Try.func51 rfl ⟨sum_in (c' := .loop b51o1) (by kernel_rfl) (o51o1), trivial⟩ te51 ue51
def C65 := mkC 65
def c65 := gc Try.f65
def ST65 : LT := []
theorem r65 : Rp (v65 t65) C65 ST65 Try.f65 (sig 65) c65 A65 := fun w => by kernel_rfl
theorem ok65 : OkS sig (Gd G dep (dep 65)) 65 th65 := okM (v := v65) r65 Try.func65 rfl trivial te65 ue65
def C85 := mkC 85
def c85 := gc Try.f85
def ST85 : LT := []
theorem r85 : Rp (v85 (ta85 tu83)) C85 ST85 Try.f85 (sig 85) c85 A85 := fun w => by kernel_rfl
theorem ok85 : OkS sig (Gd G dep (dep 85)) 85 th85 := okM (v := v85) r85 Try.func85 rfl trivial te85 ue85
def C94 := mkC 94
def c94 := gc Try.f94
def ST94 : LT := []
theorem r94 : Rp (v94 t94) C94 ST94 Try.f94 (sig 94) c94 A94 := fun w => by kernel_rfl
theorem ok94 : OkS sig (Gd G dep (dep 94)) 94 th94 := okM (v := v94) r94 Try.func94 rfl trivial te94 ue94
def C86 := mkC 86
def c86 := gc Try.f86
def ST86 : LT := []
theorem r86 : Rp (v86 (ta86 tu94)) C86 ST86 Try.f86 (sig 86) c86 A86 := fun w => by kernel_rfl
theorem ok86 : OkS sig (Gd G dep (dep 86)) 86 th86 := okM (v := v86) r86 Try.func86 rfl trivial te86 ue86
def C52 := mkC 52
def c52 := gc Try.f52
def ST52 : LT := []
theorem r52 : Rp (v52 (ta52 tu65 tu85 tu86)) C52 ST52 Try.f52 (sig 52) c52 A52 := fun w => by kernel_rfl
theorem ok52 : OkS sig (Gd G dep (dep 52)) 52 th52 := okM (v := v52) r52 Try.func52 rfl trivial te52 ue52
def C26 := mkC 26
def c26 := gc Try.f26
def T26o9 : TSt := ⟨[ag0, ag0, .ptr 128 0, .ptr 192 0, .nils, dB, .own 960, .own 1600, .own 4672, dI, dI, .ptr 704 0, dI, .undef, .any, dB, dB, dB, dB, dB, dB, dB, .any, .any], [bn1, bn3, bn8, (960, .row 38 5), (1600, .row 38 5), (4672, .row 90 2), (45062, .row 90 2)]⟩
def X26o9e1 : TSt := ⟨[ag0, ag0, .ptr 128 0, .ptr 192 0, .own 960, dB, .own 960, .own 1600, .own 4672, dI, dI, .ptr 704 0, dI, .ptr 832 0, dB, dB, dB, dB, dB, dB, dB, dB, dB, dB], [bn1, bn3, (704, .box [dI, dI, dI, dI, dS, .undef]), (832, .box [dI, dI, dI, dI, dS, .own 53254]), (960, .row 38 5), (1600, .row 38 5), (4672, .row 90 2), (53254, .row 90 2)]⟩
def X26o9e2 : TSt := ⟨[ag0, ag0, .ptr 128 0, .ptr 192 0, .nils, dB, .own 960, .own 1600, .own 4672, dI, dI, .ptr 704 0, dI, .undef, .any, dB, dB, dB, dB, dB, dB, dB, dB, .any], [bn1, bn3, bn8, (960, .row 38 5), (1600, .row 38 5), (4672, .row 90 2), (45062, .row 90 2)]⟩
def L26o9 (m : Nat) (w : List Vr) (K : KT) : Rs := la26o9 tu51 tu52 tu53 tu65 (vI w 0) (vI w 1) (vI w 2) (vI w 3) (vS w 4) (vL w 5) (vI w 6) (vI w 7) (vI w 8) (vI w 9) (vS w 10) (vL w 11) (vB w 12) (vI w 13) (vI w 14) (vB w 17) (vB w 18) (vB w 19) (vB w 20) (vB w 21) (vB w 22) (vB w 23) (vI w 26) (vI w 27) (vI w 28) (vI w 29) (vS w 30) (vL w 31) (vI w 32) (vI w 33) (vI w 34) (vI w 35) (vS w 36) (vL w 37) (vL w 43) (vL w 44) (vL w 45) (fun n371 b372 b373 b374 n375 n376 n377 n378 s379 n380 n381 n382 n383 s384 l385 => K .ret (fillS X26o9e1 [jI w 0, jI w 1, jI w 2, jI w 3, jS w 4, jL w 5, jI w 6, jI w 7, jI w 8, jI w 9, jS w 10, jL w 11, .b (false), jI w 13, jI w 14, .i n371, .b b372, jB w 17, jB w 18, jB w 19, jB w 20, jB w 21, jB w 22, jB w 23, .b b373, .b b374, jI w 26, jI w 27, jI w 28, jI w 29, jS w 30, jL w 31, jI w 32, jI w 33, jI w 34, jI w 35, jS w 36, jL w 37, .i n375, .i n376, .i n377, .i n378, .s s379, .i n380, .i n381, .i n382, .i n383, .s s384, jL w 43, jL w 44, jL w 45, .l l385])) (fun n386 v387 b388 v389 n390 n391 n392 n393 s394 l395 => K (.exit 4) (fillS X26o9e2 [jI w 0, jI w 1, jI w 2, jI w 3, jS w 4, jL w 5, jI w 6, jI w 7, jI w 8, jI w 9, jS w 10, jL w 11, jB w 12, jI w 13, jI w 14, .i n386, .v v387, jB w 17, jB w 18, jB w 19, jB w 20, jB w 21, jB w 22, jB w 23, .b b388, .v v389, jI w 26, jI w 27, jI w 28, jI w 29, jS w 30, jL w 31, jI w 32, jI w 33, jI w 34, jI w 35, jS w 36, jL w 37, .i n390, .i n391, .i n392, .i n393, .s s394, jL w 43, jL w 44, jL w 45, .l l395])) m (vI w 15) (vV w 16) (vV w 24) (vV w 25) (vI w 38) (vI w 39) (vI w 40) (vI w 41) (vS w 42) (vL w 46)
def T26o100009 : TSt := ⟨[ag0, ag0, .ptr 128 0, .ptr 192 0, .nils, dB, .own 960, .own 1600, dL, dI, dI, .ptr 704 0, dI, .undef, .any, dB, dB, dB, dB, dB, dB, dB, .any, .any], [bn1, bn3, bn8, (960, .row 38 5), (1600, .row 38 5), (45062, .row 90 2)]⟩
def X26o100009e1 : TSt := ⟨[ag0, ag0, .ptr 128 0, .ptr 192 0, .own 960, dB, .own 960, .own 1600, dL, dI, dI, .ptr 704 0, dI, .ptr 832 0, dB, dB, dB, dB, dB, dB, dB, dB, dB, dB], [bn1, bn3, (704, .box [dI, dI, dI, dI, dS, .undef]), (832, .box [dI, dI, dI, dI, dS, .own 53254]), (960, .row 38 5), (1600, .row 38 5), (53254, .row 90 2)]⟩
def X26o100009e2 : TSt := ⟨[ag0, ag0, .ptr 128 0, .ptr 192 0, .nils, dB, .own 960, .own 1600, dL, dI, dI, .ptr 704 0, dI, .undef, .any, dB, dB, dB, dB, dB, dB, dB, dB, .any], [bn1, bn3, bn8, (960, .row 38 5), (1600, .row 38 5), (45062, .row 90 2)]⟩
def L26o100009 (m : Nat) (w : List Vr) (K : KT) : Rs := la26o100009 tu51 tu52 tu53 tu65 (vI w 0) (vI w 1) (vI w 2) (vI w 3) (vS w 4) (vL w 5) (vI w 6) (vI w 7) (vI w 8) (vI w 9) (vS w 10) (vL w 11) (vB w 12) (vL w 13) (vI w 14) (vI w 15) (vB w 18) (vB w 19) (vB w 20) (vB w 21) (vB w 22) (vB w 23) (vB w 24) (vI w 27) (vI w 28) (vI w 29) (vI w 30) (vS w 31) (vL w 32) (vI w 33) (vI w 34) (vI w 35) (vI w 36) (vS w 37) (vL w 38) (vL w 44) (vL w 45) (fun n775 b776 b777 b778 n779 n780 n781 n782 s783 n784 n785 n786 n787 s788 l789 => K .ret (fillS X26o100009e1 [jI w 0, jI w 1, jI w 2, jI w 3, jS w 4, jL w 5, jI w 6, jI w 7, jI w 8, jI w 9, jS w 10, jL w 11, .b (false), jL w 13, jI w 14, jI w 15, .i n775, .b b776, jB w 18, jB w 19, jB w 20, jB w 21, jB w 22, jB w 23, jB w 24, .b b777, .b b778, jI w 27, jI w 28, jI w 29, jI w 30, jS w 31, jL w 32, jI w 33, jI w 34, jI w 35, jI w 36, jS w 37, jL w 38, .i n779, .i n780, .i n781, .i n782, .s s783, .i n784, .i n785, .i n786, .i n787, .s s788, jL w 44, jL w 45, .l l789])) (fun n790 v791 b792 v793 n794 n795 n796 n797 s798 l799 => K (.exit 4) (fillS X26o100009e2 [jI w 0, jI w 1, jI w 2, jI w 3, jS w 4, jL w 5, jI w 6, jI w 7, jI w 8, jI w 9, jS w 10, jL w 11, jB w 12, jL w 13, jI w 14, jI w 15, .i n790, .v v791, jB w 18, jB w 19, jB w 20, jB w 21, jB w 22, jB w 23, jB w 24, .b b792, .v v793, jI w 27, jI w 28, jI w 29, jI w 30, jS w 31, jL w 32, jI w 33, jI w 34, jI w 35, jI w 36, jS w 37, jL w 38, .i n794, .i n795, .i n796, .i n797, .s s798, jL w 44, jL w 45, .l l799])) m (vI w 16) (vV w 17) (vV w 25) (vV w 26) (vI w 39) (vI w 40) (vI w 41) (vI w 42) (vS w 43) (vL w 46)
def T26o6 : TSt := ⟨[ag0, ag0, .ptr 128 0, .ptr 192 0, .nils, dB, .own 960, .own 1600, .own 4672, dI, dI, .undef, .undef, .undef, .undef, dB, dB, dB, dB, dB, .any, .undef, .undef, .undef], [bn1, bn3, (960, .row 38 5), (1600, .row 38 5), (4672, .row 90 2)]⟩
def X26o6e1 : TSt := ⟨[ag0, ag0, .ptr 128 0, .ptr 192 0, .nils, dB, .own 960, .own 1600, .own 4672, dI, dI, .undef, .undef, .undef, .undef, dB, dB, dB, dB, dB, dB, .undef, .undef, .undef], [bn1, bn3, (960, .row 38 5), (1600, .row 38 5), (4672, .row 90 2)]⟩
def L26o6 (m : Nat) (w : List Vr) (K : KT) : Rs := la26o6 tu51 tu52 tu53 tu65 (vI w 0) (vI w 1) (vI w 2) (vI w 3) (vS w 4) (vL w 5) (vI w 6) (vI w 7) (vI w 8) (vI w 9) (vS w 10) (vL w 11) (vB w 12) (vI w 13) (vB w 15) (vB w 16) (vB w 17) (vB w 18) (vB w 19) (vI w 21) (vI w 22) (vI w 23) (vI w 24) (vS w 25) (vL w 26) (vI w 27) (vI w 28) (vI w 29) (vI w 30) (vS w 31) (vL w 32) (vL w 33) (vL w 35) (fun n227 b228 l229 => K (.exit 2) (fillS X26o6e1 [jI w 0, jI w 1, jI w 2, jI w 3, jS w 4, jL w 5, jI w 6, jI w 7, jI w 8, jI w 9, jS w 10, jL w 11, jB w 12, jI w 13, .i n227, jB w 15, jB w 16, jB w 17, jB w 18, jB w 19, .b b228, jI w 21, jI w 22, jI w 23, jI w 24, jS w 25, jL w 26, jI w 27, jI w 28, jI w 29, jI w 30, jS w 31, jL w 32, jL w 33, .l l229, jL w 35])) m (vI w 14) (vV w 20) (vL w 34)
def T26o100006 : TSt := ⟨[ag0, ag0, .ptr 128 0, .ptr 192 0, .nils, dB, .own 960, .own 1600, dL, dI, dI, .undef, .undef, .undef, .undef, dB, dB, dB, dB, dB, .any, .undef, .undef, .undef], [bn1, bn3, (960, .row 38 5), (1600, .row 38 5)]⟩
def X26o100006e1 : TSt := ⟨[ag0, ag0, .ptr 128 0, .ptr 192 0, .nils, dB, .own 960, .own 1600, dL, dI, dI, .undef, .undef, .undef, .undef, dB, dB, dB, dB, dB, dB, .undef, .undef, .undef], [bn1, bn3, (960, .row 38 5), (1600, .row 38 5)]⟩
def L26o100006 (m : Nat) (w : List Vr) (K : KT) : Rs := la26o100006 tu51 tu52 tu53 tu65 (vI w 0) (vI w 1) (vI w 2) (vI w 3) (vS w 4) (vL w 5) (vI w 6) (vI w 7) (vI w 8) (vI w 9) (vS w 10) (vL w 11) (vB w 12) (vL w 13) (vI w 14) (vB w 16) (vB w 17) (vB w 18) (vB w 19) (vB w 20) (vI w 22) (vI w 23) (vI w 24) (vI w 25) (vS w 26) (vL w 27) (vI w 28) (vI w 29) (vI w 30) (vI w 31) (vS w 32) (vL w 33) (vL w 34) (fun n631 b632 l633 => K (.exit 2) (fillS X26o100006e1 [jI w 0, jI w 1, jI w 2, jI w 3, jS w 4, jL w 5, jI w 6, jI w 7, jI w 8, jI w 9, jS w 10, jL w 11, jB w 12, jL w 13, jI w 14, .i n631, jB w 16, jB w 17, jB w 18, jB w 19, jB w 20, .b b632, jI w 22, jI w 23, jI w 24, jI w 25, jS w 26, jL w 27, jI w 28, jI w 29, jI w 30, jI w 31, jS w 32, jL w 33, jL w 34, .l l633])) m (vI w 15) (vV w 21) (vL w 35)
def T26o3 : TSt := ⟨[ag0, ag0, .ptr 128 0, .ptr 192 0, .nils, dB, .own 960, .own 1600, .own 4672, dI, .undef, .undef, .undef, .undef, .undef, dB, dB, dB, .any, .undef, .undef, .undef, .undef, .undef], [bn1, bn3, (960, .row 38 5), (1600, .row 38 5), (4096, .row 38 5), (4672, .row 90 2)]⟩
def X26o3e1 : TSt := ⟨[ag0, ag0, .ptr 128 0, .ptr 192 0, .nils, dB, .own 960, .own 1600, .own 4672, dI, .undef, .undef, .undef, .undef, .undef, dB, dB, dB, dB, .undef, .undef, .undef, .undef, .undef], [bn1, bn3, (960, .row 38 5), (1600, .row 38 5), (4096, .row 38 5), (4672, .row 90 2)]⟩
def L26o3 (m : Nat) (w : List Vr) (K : KT) : Rs := la26o3 tu51 tu52 tu53 tu65 (vI w 0) (vI w 1) (vI w 2) (vI w 3) (vS w 4) (vL w 5) (vI w 6) (vI w 7) (vI w 8) (vI w 9) (vS w 10) (vL w 11) (vB w 12) (vB w 14) (vB w 15) (vB w 16) (vI w 18) (vI w 19) (vI w 20) (vI w 21) (vS w 22) (vL w 23) (vI w 24) (vI w 25) (vI w 26) (vI w 27) (vS w 28) (vL w 29) (vL w 30) (vL w 31) (vL w 32) (vL w 33) (fun n115 b116 => K (.exit 0) (fillS X26o3e1 [jI w 0, jI w 1, jI w 2, jI w 3, jS w 4, jL w 5, jI w 6, jI w 7, jI w 8, jI w 9, jS w 10, jL w 11, jB w 12, .i n115, jB w 14, jB w 15, jB w 16, .b b116, jI w 18, jI w 19, jI w 20, jI w 21, jS w 22, jL w 23, jI w 24, jI w 25, jI w 26, jI w 27, jS w 28, jL w 29, jL w 30, jL w 31, jL w 32, jL w 33])) m (vI w 13) (vV w 17)
def T26o100003 : TSt := ⟨[ag0, ag0, .ptr 128 0, .ptr 192 0, .nils, dB, .own 960, .own 1600, dL, dI, .undef, .undef, .undef, .undef, .undef, dB, dB, dB, .any, .undef, .undef, .undef, .undef, .undef], [bn1, bn3, (960, .row 38 5), (1600, .row 38 5)]⟩
def X26o100003e1 : TSt := ⟨[ag0, ag0, .ptr 128 0, .ptr 192 0, .nils, dB, .own 960, .own 1600, dL, dI, .undef, .undef, .undef, .undef, .undef, dB, dB, dB, dB, .undef, .undef, .undef, .undef, .undef], [bn1, bn3, (960, .row 38 5), (1600, .row 38 5)]⟩
def L26o100003 (m : Nat) (w : List Vr) (K : KT) : Rs := la26o100003 tu51 tu52 tu53 tu65 (vI w 0) (vI w 1) (vI w 2) (vI w 3) (vS w 4) (vL w 5) (vI w 6) (vI w 7) (vI w 8) (vI w 9) (vS w 10) (vL w 11) (vB w 12) (vL w 13) (vB w 15) (vB w 16) (vB w 17) (vI w 19) (vI w 20) (vI w 21) (vI w 22) (vS w 23) (vL w 24) (vI w 25) (vI w 26) (vI w 27) (vI w 28) (vS w 29) (vL w 30) (vL w 31) (vL w 32) (fun n519 b520 => K (.exit 0) (fillS X26o100003e1 [jI w 0, jI w 1, jI w 2, jI w 3, jS w 4, jL w 5, jI w 6, jI w 7, jI w 8, jI w 9, jS w 10, jL w 11, jB w 12, jL w 13, .i n519, jB w 15, jB w 16, jB w 17, .b b520, jI w 19, jI w 20, jI w 21, jI w 22, jS w 23, jL w 24, jI w 25, jI w 26, jI w 27, jI w 28, jS w 29, jL w 30, jL w 31, jL w 32])) m (vI w 14) (vV w 18)
def ST26 : LT := [(9, altS T26o9 (sumT T26o9 (L26o9 KK)) (sumT T26o100009 (L26o100009 KK))), (6, altS T26o6 (sumT T26o6 (L26o6 KK)) (sumT T26o100006 (L26o100006 KK))), (3, altS T26o3 (sumT T26o3 (L26o3 KK)) (sumT T26o100003 (L26o100003 KK)))]
def b26o9 := bd c26 9
def b26o6 := bd c26 6
def b26o3 := bd c26 3
theorem q26o9 : Qp L26o9 C26 ST26 b26o9 10 T26o9 := fun m w K => by kernel_rfl
theorem o26o9 : SumOk C26 KK (sumT T26o9 (L26o9 KK)) (.loop b26o9) := loop_ok T26o9 L26o9 (sums_of (t := ST26) ⟨fun _ _ h => absurd h (by decide), fun _ _ h => absurd h (by decide), fun _ _ h => absurd h (by decide), trivial⟩) (fun _ _ => rfl) q26o9
theorem q26o100009 : Qp L26o100009 C26 ST26 b26o9 10 T26o100009 := fun m w K => by kernel_rfl
theorem o26o100009 : SumOk C26 KK (sumT T26o100009 (L26o100009 KK)) (.loop b26o9) := loop_ok T26o100009 L26o100009 (sums_of (t := ST26) ⟨fun _ _ h => absurd h (by decide), fun _ _ h => absurd h (by decide), fun _ _ h => absurd h (by decide), trivial⟩) (fun _ _ => rfl) q26o100009
theorem q26o6 : Qp L26o6 C26 ST26 b26o6 7 T26o6 := fun m w K => by kernel_rfl
theorem o26o6 : SumOk C26 KK (sumT T26o6 (L26o6 KK)) (.loop b26o6) := loop_ok T26o6 L26o6 (sums_of (t := ST26) ⟨sum_out (by kernel_rfl), fun _ _ h => absurd h (by decide), fun _ _ h => absurd h (by decide), trivial⟩) (fun _ _ => rfl) q26o6
theorem q26o100006 : Qp L26o100006 C26 ST26 b26o6 7 T26o100006 := fun m w K => by kernel_rfl
theorem o26o100006 : SumOk C26 KK (sumT T26o100006 (L26o100006 KK)) (.loop b26o6) := loop_ok T26o100006 L26o100006 (sums_of (t := ST26) ⟨sum_out (by kernel_rfl), fun _ _ h => absurd h (by decide), fun _ _ h => absurd h (by decide), trivial⟩) (fun _ _ => rfl) q26o100006
theorem q26o3 : Qp L26o3 C26 ST26 b26o3 4 T26o3 := fun m w K => by kernel_rfl
theorem o26o3 : SumOk C26 KK (sumT T26o3 (L26o3 KK)) (.loop b26o3) := loop_ok T26o3 L26o3 (sums_of (t := ST26) ⟨sum_out (by kernel_rfl), sum_out (by kernel_rfl), fun _ _ h => absurd h (by decide), trivial⟩) (fun _ _ => rfl) q26o3
theorem q26o100003 : Qp L26o100003 C26 ST26 b26o3 4 T26o100003 := fun m w K => by kernel_rfl
theorem o26o100003 : SumOk C26 KK (sumT T26o100003 (L26o100003 KK)) (.loop b26o3) := loop_ok T26o100003 L26o100003 (sums_of (t := ST26) ⟨sum_out (by kernel_rfl), sum_out (by kernel_rfl), fun _ _ h => absurd h (by decide), trivial⟩) (fun _ _ => rfl) q26o100003
theorem r26 : Rp (v26 (ta26 tu51 tu52 tu53 tu65)) C26 ST26 Try.f26 (sig 26) c26 A26 := fun w => by kernel_rfl
theorem ok26 : OkS sig (Gd G dep (dep 26)) 26 th26 := okM (v := v26) r26 Try.func26 rfl ⟨sum_in (c' := .loop b26o9) (by kernel_rfl) (alt_ok o26o9 (o26o100009)), sum_in (c' := .loop b26o6) (by kernel_rfl) (alt_ok o26o6 (o26o100006)), sum_in (c' := .loop b26o3) (by kernel_rfl) (alt_ok o26o3 (o26o100003)), trivial⟩ te26 ue26
def C17 := mkC 17
def c17 := gc Try.f17
def ST17 : LT := []
theorem r17 : Rp (v17 (ta17 tu56 tu57 tu58)) C17 ST17 Try.f17 (sig 17) c17 A17 := fun w => by kernel_rfl
theorem ok17 : OkS sig (Gd G dep (dep 17)) 17 th17 := okM (v := v17) r17 Try.func17 rfl trivial te17 ue17
def C77 := mkC 77
def c77 := gc Try.f77
def T77o1 : TSt := ⟨[dL, dL, dB, dI, dB, .any, .any], []⟩
def X77o1e1 : TSt := ⟨[dL, dL, dB, dI, dB, dB, dB], []⟩
def X77o1e2 : TSt := ⟨[dL, dL, dB, dI, dB, dB, .any], []⟩
def L77o1 (m : Nat) (w : List Vr) (K : KT) : Rs := l77o1 (vL w 0) (vL w 1) (vB w 2) (vB w 4) (fun n22 b23 b24 => K .ret (fillS X77o1e1 [jL w 0, jL w 1, .b (false), .i n22, jB w 4, .b b23, .b b24])) (fun n25 b26 v27 => K (.exit 0) (fillS X77o1e2 [jL w 0, jL w 1, jB w 2, .i n25, jB w 4, .b b26, .v v27])) m (vI w 3) (vV w 5) (vV w 6)
def ST77 : LT := [(1, sumT T77o1 (L77o1 KK))]
def b77o1 := bd c77 1
theorem q77o1 : Qp L77o1 C77 ST77 b77o1 2 T77o1 := fun m w K => by kernel_rfl
theorem o77o1 : SumOk C77 KK (sumT T77o1 (L77o1 KK)) (.loop b77o1) := loop_ok T77o1 L77o1 (sums_of (t := ST77) ⟨fun _ _ h => absurd h (by decide), trivial⟩) (fun _ _ => rfl) q77o1
theorem r77 : Rp (v77 t77) C77 ST77 Try.f77 (sig 77) c77 A77 := fun w => by kernel_rfl
theorem ok77 : OkS sig (Gd G dep (dep 77)) 77 th77 := okM (v := v77) r77 Try.func77 rfl ⟨sum_in (c' := .loop b77o1) (by kernel_rfl) (o77o1), trivial⟩ te77 ue77
def C46 := mkC 46
def c46 := gc Try.f46
def ST46 : LT := []
theorem r46 : Rp (v46 (ta46 tu77)) C46 ST46 Try.f46 (sig 46) c46 A46 := fun w => by kernel_rfl
theorem ok46 : OkS sig (Gd G dep (dep 46)) 46 th46 := okM (v := v46) r46 Try.func46 rfl trivial te46 ue46
def C10 := mkC 10
def c10 := gc Try.f10
def T10o3 : TSt := ⟨[dL, dB, .ptr 192 0, .ptr 256 0, .own 1600, dB, dB, .ptr 576 0, dI, .undef, .undef, .undef, .undef, dB, dB, dB, .undef, .undef], [bn2, bn5, (576, bx2), (1600, .row 38 5), (1984, .row 38 5), (12294, .row 90 2), (16390, .row 90 2)]⟩
def X10o3e1 : TSt := ⟨[dL, dB, .ptr 192 0, .ptr 256 0, .own 1600, dB, dB, .ptr 576 0, dI, .ptr 704 0, dB, .undef, .undef, dB, dB, dB, dB, dB], [bn2, bn5, (576, bx2), bn8, (1600, .row 38 5), (1984, .row 38 5), (12294, .row 90 2), (16390, .row 90 2), (45062, .row 90 2)]⟩
def X10o3e2 : TSt := ⟨[dL, dB, .ptr 192 0, .ptr 256 0, .own 1600, dB, dB, .ptr 576 0, dI, .undef, .undef, .undef, .undef, dB, dB, dB, dB, .undef], [bn2, bn5, (576, bx2), (1600, .row 38 5), (1984, .row 38 5), (12294, .row 90 2), (16390, .row 90 2)]⟩
def X10o3e3 : TSt := ⟨[dL, dB, .ptr 192 0, .ptr 256 0, .own 1600, dB, dB, .ptr 576 0, dI, .ptr 704 0, dB, .undef, .undef, dB, dB, dB, dB, dB], [bn2, bn5, (576, bx5), bn8, (1600, .row 38 5), (1984, .row 38 5), (12294, .row 90 2), (16390, .row 90 2), (36870, .row 90 2), (45062, .row 90 2)]⟩
def X10o3e4 : TSt := ⟨[dL, dB, .ptr 192 0, .ptr 256 0, .own 1600, dB, dB, .ptr 576 0, dI, .undef, dB, .undef, .undef, dB, dB, dB, dB, dB], [bn2, bn5, (576, bx5), (1600, .row 38 5), (1984, .row 38 5), (12294, .row 90 2), (16390, .row 90 2), (36870, .row 90 2)]⟩
def L10o3 (m : Nat) (w : List Vr) (K : KT) : Rs := la10o3 tu17 tu26 tu27 tu43 tu44 tu45 tu46 (fun l60 b61 b62 n63 b64 b65 b66 b67 b68 b69 n70 n71 n72 n73 s74 n75 n76 n77 n78 s79 n80 n81 n82 n83 s84 n85 n86 n87 n88 s89 l90 l91 l92 l93 l94 => K .ret (fillS X10o3e1 [.l l60, .b (false), .b b61, .b b62, .i n63, .b b64, .b b65, .b b66, .b b67, .b b68, .b b69, .i n70, .i n71, .i n72, .i n73, .s s74, .i n75, .i n76, .i n77, .i n78, .s s79, .i n80, .i n81, .i n82, .i n83, .s s84, .i n85, .i n86, .i n87, .i n88, .s s89, .l l90, .l l91, .l l92, .l l93, .l l94])) (fun l95 b96 b97 b98 n99 b100 b101 b102 b103 n104 n105 n106 n107 s108 n109 n110 n111 n112 s113 n114 n115 n116 n117 s118 l119 l120 l121 l122 => K (.exit 0) (fillS X10o3e2 [.l l95, .b b96, .b b97, .b b98, .i n99, .b b100, .b b101, .b b102, .b b103, .i n104, .i n105, .i n106, .i n107, .s s108, .i n109, .i n110, .i n111, .i n112, .s s113, .i n114, .i n115, .i n116, .i n117, .s s118, .l l119, .l l120, .l l121, .l l122])) (fun l123 b124 b125 n126 b127 b128 b129 b130 b131 b132 n133 n134 n135 n136 s137 n138 n139 n140 n141 s142 n143 n144 n145 n146 s147 n148 n149 n150 n151 s152 l153 l154 l155 l156 l157 l158 => K .ret (fillS X10o3e3 [.l l123, .b (false), .b b124, .b b125, .i n126, .b b127, .b b128, .b b129, .b b130, .b b131, .b b132, .i n133, .i n134, .i n135, .i n136, .s s137, .i n138, .i n139, .i n140, .i n141, .s s142, .i n143, .i n144, .i n145, .i n146, .s s147, .i n148, .i n149, .i n150, .i n151, .s s152, .l l153, .l l154, .l l155, .l l156, .l l157, .l l158])) (fun l159 b160 b161 b162 n163 b164 b165 b166 b167 b168 b169 n170 n171 n172 n173 s174 n175 n176 n177 n178 s179 n180 n181 n182 n183 s184 l185 l186 l187 l188 l189 => K (.exit 0) (fillS X10o3e4 [.l l159, .b b160, .b b161, .b b162, .i n163, .b b164, .b b165, .b b166, .b b167, .b b168, .b b169, .i n170, .i n171, .i n172, .i n173, .s s174, .i n175, .i n176, .i n177, .i n178, .s s179, .i n180, .i n181, .i n182, .i n183, .s s184, .l l185, .l l186, .l l187, .l l188, .l l189])) m (vL w 0) (vB w 1) (vB w 2) (vB w 3) (vI w 4) (vB w 5) (vB w 6) (vB w 7) (vI w 8) (vI w 9) (vI w 10) (vI w 11) (vS w 12) (vI w 13) (vI w 14) (vI w 15) (vI w 16) (vS w 17) (vI w 18) (vI w 19) (vI w 20) (vI w 21) (vS w 22) (vL w 23) (vL w 24) (vL w 25) (vL w 26)
def T10o10000003 : TSt := ⟨[dL, dB, .ptr 192 0, .ptr 256 0, .own 1600, dB, dB, .ptr 576 0, dI, .undef, dB, .undef, .undef, dB, dB, dB, dB, dB], [bn2, bn5, (576, bx5), (1600, .row 38 5), (1984, .row 38 5), (12294, .row 90 2), (16390, .row 90 2), (36870, .row 90 2)]⟩
def X10o10000003e1 : TSt := ⟨[dL, dB, .ptr 192 0, .ptr 256 0, .own 1600, dB, dB, .ptr 576 0, dI, .ptr 704 0, dB, .undef, .undef, dB, dB, dB, dB, dB], [bn2, bn5, (576, bx2), bn8, (1600, .row 38 5), (1984, .row 38 5), (12294, .row 90 2), (16390, .row 90 2), (45062, .row 90 2)]⟩
def X10o10000003e2 : TSt := ⟨[dL, dB, .ptr 192 0, .ptr 256 0, .own 1600, dB, dB, .ptr 576 0, dI, .undef, .undef, .undef, .undef, dB, dB, dB, dB, .undef], [bn2, bn5, (576, bx2), (1600, .row 38 5), (1984, .row 38 5), (12294, .row 90 2), (16390, .row 90 2)]⟩
def X10o10000003e3 : TSt := ⟨[dL, dB, .ptr 192 0, .ptr 256 0, .own 1600, dB, dB, .ptr 576 0, dI, .ptr 704 0, dB, .undef, .undef, dB, dB, dB, dB, dB], [bn2, bn5, (576, bx5), bn8, (1600, .row 38 5), (1984, .row 38 5), (12294, .row 90 2), (16390, .row 90 2), (36870, .row 90 2), (45062, .row 90 2)]⟩
def X10o10000003e4 : TSt := ⟨[dL, dB, .ptr 192 0, .ptr 256 0, .own 1600, dB, dB, .ptr 576 0, dI, .undef, dB, .undef, .undef, dB, dB, dB, dB, dB], [bn2, bn5, (576, bx5), (1600, .row 38 5), (1984, .row 38 5), (12294, .row 90 2), (16390, .row 90 2), (36870, .row 90 2)]⟩
def L10o10000003 (m : Nat) (w : List Vr) (K : KT) : Rs := la10o10000003 tu17 tu26 tu27 tu43 tu44 tu45 tu46 (fun l60 b61 b62 n63 b64 b65 b66 b67 b68 b69 n70 n71 n72 n73 s74 n75 n76 n77 n78 s79 n80 n81 n82 n83 s84 n85 n86 n87 n88 s89 l90 l91 l92 l93 l94 => K .ret (fillS X10o10000003e1 [.l l60, .b (false), .b b61, .b b62, .i n63, .b b64, .b b65, .b b66, .b b67, .b b68, .b b69, .i n70, .i n71, .i n72, .i n73, .s s74, .i n75, .i n76, .i n77, .i n78, .s s79, .i n80, .i n81, .i n82, .i n83, .s s84, .i n85, .i n86, .i n87, .i n88, .s s89, .l l90, .l l91, .l l92, .l l93, .l l94])) (fun l95 b96 b97 b98 n99 b100 b101 b102 b103 n104 n105 n106 n107 s108 n109 n110 n111 n112 s113 n114 n115 n116 n117 s118 l119 l120 l121 l122 => K (.exit 0) (fillS X10o10000003e2 [.l l95, .b b96, .b b97, .b b98, .i n99, .b b100, .b b101, .b b102, .b b103, .i n104, .i n105, .i n106, .i n107, .s s108, .i n109, .i n110, .i n111, .i n112, .s s113, .i n114, .i n115, .i n116, .i n117, .s s118, .l l119, .l l120, .l l121, .l l122])) (fun l123 b124 b125 n126 b127 b128 b129 b130 b131 b132 n133 n134 n135 n136 s137 n138 n139 n140 n141 s142 n143 n144 n145 n146 s147 n148 n149 n150 n151 s152 l153 l154 l155 l156 l157 l158 => K .ret (fillS X10o10000003e3 [.l l123, .b (false), .b b124, .b b125, .i n126, .b b127, .b b128, .b b129, .b b130, .b b131, .b b132, .i n133, .i n134, .i n135, .i n136, .s s137, .i n138, .i n139, .i n140, .i n141, .s s142, .i n143, .i n144, .i n145, .i n146, .s s147, .i n148, .i n149, .i n150, .i n151, .s s152, .l l153, .l l154, .l l155, .l l156, .l l157, .l l158])) (fun l159 b160 b161 b162 n163 b164 b165 b166 b167 b168 b169 n170 n171 n172 n173 s174 n175 n176 n177 n178 s179 n180 n181 n182 n183 s184 l185 l186 l187 l188 l189 => K (.exit 0) (fillS X10o10000003e4 [.l l159, .b b160, .b b161, .b b162, .i n163, .b b164, .b b165, .b b166, .b b167, .b b168, .b b169, .i n170, .i n171, .i n172, .i n173, .s s174, .i n175, .i n176, .i n177, .i n178, .s s179, .i n180, .i n181, .i n182, .i n183, .s s184, .l l185, .l l186, .l l187, .l l188, .l l189])) m (vL w 0) (vB w 1) (vB w 2) (vB w 3) (vI w 4) (vB w 5) (vB w 6) (vB w 7) (vB w 8) (vB w 9) (vB w 10) (vI w 11) (vI w 12) (vI w 13) (vI w 14) (vS w 15) (vI w 16) (vI w 17) (vI w 18) (vI w 19) (vS w 20) (vI w 21) (vI w 22) (vI w 23) (vI w 24) (vS w 25) (vL w 26) (vL w 27) (vL w 28) (vL w 29) (vL w 30)
def ST10 : LT := [(3, sumT T10o3 (L10o3 KK))]
def b10o3 := bd c10 3
def F10o3 (m : Nat) : List (TSt × (List Vr → KT → Rs)) := [(T10o3, L10o3 m), (T10o10000003, L10o10000003 m)]
theorem o10o3 : SumOk C10 KK (sumT T10o3 (L10o3 KK)) (.loop b10o3) := loop_okF (o := 3) F10o3 (sums_of (t := ST10) ⟨fun _ _ h => absurd h (by decide), trivial⟩) ⟨fun _ _ => rfl, fun _ _ => rfl, trivial⟩ (fun m => ⟨fun w K => by kernel_rfl, fun w K => by kernel_rfl, trivial⟩) rfl
theorem r10 : Rp (v10 (ta10 tu17 tu26 tu27 tu43 tu44 tu45 tu46)) C10 ST10 Try.f10 (sig 10) c10 A10 := fun w => by kernel_rfl
theorem ok10 : OkS sig (Gd G dep (dep 10)) 10 th10 := okM (v := v10) r10 Try.func10 rfl ⟨sum_in (c' := .loop b10o3) (by kernel_rfl) (o10o3), trivial⟩ te10 ue10
theorem fn_ok : ∀ f ∈ [43, 72, 93, 79, 74, 92, 96, 91, 81, 73, 53, 75, 44, 76, 56, 57, 45, 95, 88, 58, 90, 66, 27, 83, 84, 51, 65, 85, 94, 86, 52, 26, 17, 77, 46, 10], FnOk Try.prog sig f := fun f h => fnOk_of (List.all_eq_true.1 (show [43, 72, 93, 79, 74, 92, 96, 91, 81, 73, 53, 75, 44, 76, 56, 57, 45, 95, 88, 58, 90, 66, 27, 83, 84, 51, 65, 85, 94, 86, 52, 26, 17, 77, 46, 10].all (fnOkB Try.prog sig) = true by kernel_rfl) f h)
theorem ak {f : Nat} {th : List DV → Bool × List DV × List (List D)} (a : FnOk Try.prog sig f) (o : OkS sig (Gd G dep (dep f)) f th) : ∀ xs q, opt (th xs) = some q → FnOk Try.prog sig f ∧ evalBody Try.prog sig (Gd G dep (dep f)) KK f xs = some q := fun xs q h => ⟨a, o xs q h⟩
theorem all_ok : AllG (fun f xs q => FnOk Try.prog sig f ∧ evalBody Try.prog sig (Gd G dep (dep f)) KK f xs = some q) gT :=
  ⟨ak (fn_ok 43 (by simp)) ok43, ak (fn_ok 72 (by simp)) ok72, ak (fn_ok 93 (by simp)) ok93, ak (fn_ok 79 (by simp)) ok79, ak (fn_ok 74 (by simp)) ok74, ak (fn_ok 92 (by simp)) ok92, ak (fn_ok 96 (by simp)) ok96, ak (fn_ok 91 (by simp)) ok91, ak (fn_ok 81 (by simp)) ok81, ak (fn_ok 73 (by simp)) ok73, ak (fn_ok 53 (by simp)) ok53, ak (fn_ok 75 (by simp)) ok75, ak (fn_ok 44 (by simp)) ok44, ak (fn_ok 76 (by simp)) ok76, ak (fn_ok 56 (by simp)) ok56, ak (fn_ok 57 (by simp)) ok57, ak (fn_ok 45 (by simp)) ok45, ak (fn_ok 95 (by simp)) ok95, ak (fn_ok 88 (by simp)) ok88, ak (fn_ok 58 (by simp)) ok58, ak (fn_ok 90 (by simp)) ok90, ak (fn_ok 66 (by simp)) ok66, ak (fn_ok 27 (by simp)) ok27, ak (fn_ok 83 (by simp)) ok83, ak (fn_ok 84 (by simp)) ok84, ak (fn_ok 51 (by simp)) ok51, ak (fn_ok 65 (by simp)) ok65, ak (fn_ok 85 (by simp)) ok85, ak (fn_ok 94 (by simp)) ok94, ak (fn_ok 86 (by simp)) ok86, ak (fn_ok 52 (by simp)) ok52, ak (fn_ok 26 (by simp)) ok26, ak (fn_ok 17 (by simp)) ok17, ak (fn_ok 77 (by simp)) ok77, ak (fn_ok 46 (by simp)) ok46, ak (fn_ok 10 (by simp)) ok10, trivial⟩
theorem G_ok (f : Nat) : SpecOk Try.prog (sig f) (fun xs => opt (G f xs)) f := G_spec (by kernel_rfl) (allG_of all_ok) f
end
end Go.Den.L10
