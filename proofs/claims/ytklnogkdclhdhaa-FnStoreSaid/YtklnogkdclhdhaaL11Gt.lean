/- The functions' table, and that each is what its twin says. Printed by tw.py. -/
import Derived.Test.YtklnogkdclhdhaaL11Tw
import Derived.Test.YtklnogkdclhdhaaProg
import Derived.KernelRfl
set_option linter.unusedVariables false
namespace Go.Den.L11
open Go Go.Proofs
noncomputable section
set_option maxRecDepth 100000
def U {α : Type} (a : α) : α := Classical.choose (⟨a, rfl⟩ : ∃ f, f = a)
theorem U_eq {α : Type} (a : α) : U a = a := Classical.choose_spec (⟨a, rfl⟩ : ∃ f, f = a)
abbrev dI : TV := .d (.i .i64)
abbrev dB : TV := .d .b
abbrev dS : TV := .d .s
abbrev dL : TV := .d .l
def bx0 : TB := .box [.bx 0 0 (.l), dI, dI]
def bx1 : TB := .box [dI, dI, dI, dI, dS, .nils, .nils]
def bx2 : TB := .box [dI, dI, dI, dI, dS, .nils]
def bx3 : TB := .box [dI, dI, dI, dI, dS, .own 12294, .own 12295]
def bx4 : TB := .box [dI, dI, dI, dI, dS, .own 12294]
def bx5 : TB := .box [dI, dI, dI, dI, dS, .own 16390]
def bx6 : TB := .box [dI, dI, dI, dI, dS, .own 24582, .own 24583]
def bx7 : TB := .box [dI, dI, dI, dI, dS, .own 28678]
def bx8 : TB := .box [dI, dI, dI, dI, dS, .own 32774, .own 32775]
def bx9 : TB := .box [dI, dI, dI, dI, dS, .own 32774]
def bx10 : TB := .box [dI, dI, dI, dI, dS, .own 36870, .own 36871]
def bx11 : TB := .box [dI, dI, dI, dI, dS, .own 40966, .own 40967]
def bx12 : TB := .box [dI, dI, dI, dI, dS, .own 49158]
def bx13 : TB := .box [dI, dI, dI, dI, dS, dL, dL]
def bx14 : TB := .box [dI, dI, dI, dI, dS, dL]
def bx15 : TB := .box [dI, dI, dI, dI, dS]
def ag0 : TV := .agg [dI, dI, dI, dI, dS, dL, dL]
def ag1 : TV := .agg [dI, dI, dI, dI, dS, dL]
def bn0 : Nat × TB := (0, bx0)
def bn1 : Nat × TB := (128, bx1)
def bn2 : Nat × TB := (192, bx14)
def bn3 : Nat × TB := (192, bx3)
def bn4 : Nat × TB := (256, bx15)
def bn5 : Nat × TB := (320, bx15)
abbrev KT := Cont (List DV × List (List D))
def dr (a n : Nat) : List (Nat × Nat × List Nat) := (List.range n).map fun i => (a + i, 0, [])
abbrev LT := List (Nat × (St → KT → Rs))
def Qp (L : Nat → List Vr → KT → Rs) (C : Ctx) (S : LT) (b : Code) (n : Nat) (T : TSt) : Prop := ∀ m w K, L (m + 1) w K = denK C (lkS S) b n (fillS T w) (loopK C T (L m) K)
abbrev jB (w : List Vr) (n : Nat) : Vr := .b (vB w n)
abbrev jI (w : List Vr) (n : Nat) : Vr := .i (vI w n)
abbrev jS (w : List Vr) (n : Nat) : Vr := .s (vS w n)
abbrev jL (w : List Vr) (n : Nat) : Vr := .l (vL w n)
abbrev jN (w : List Vr) (n : Nat) : Vr := .n (vN w n)
abbrev jV (w : List Vr) (n : Nat) : Vr := .v (vV w n)
def OkS (sig : Nat → Sig) (g : Nat → List DV → Bool × List DV × List (List D)) (f : Nat) (th : List DV → Bool × List DV × List (List D)) : Prop := ∀ xs q, opt (th xs) = some q → evalBody Try.prog sig g KK f xs = some q
def tu43 := U t43
theorem ue43 : tu43 = t43 := U_eq _
theorem te43 : t43 = t43 := rfl
def v43 (f : Y43) (w : List Vr) : Rs := f (vL w 0)
def th43 := fun xs => gOf zr43 zo43 (argsT A43 (v43 tu43) xs)
def tu72 := U t72
theorem ue72 : tu72 = t72 := U_eq _
theorem te72 : t72 = t72 := rfl
def v72 (f : Y72) (w : List Vr) : Rs := f (vL w 0)
def th72 := fun xs => gOf zr72 zo72 (argsT A72 (v72 tu72) xs)
def tu93 := U t93
theorem ue93 : tu93 = t93 := U_eq _
theorem te93 : t93 = t93 := rfl
def v93 (f : Y93) (w : List Vr) : Rs := f (vL w 0) (vI w 1) (vI w 2)
def th93 := fun xs => gOf zr93 zo93 (argsT A93 (v93 tu93) xs)
def tu79 := U t79
theorem ue79 : tu79 = t79 := U_eq _
theorem te79 : ta79 tu93 = t79 := by rw [ue93]; rfl
def v79 (f : Y79) (w : List Vr) : Rs := f (vL w 0) (vI w 1) (vI w 2) (vI w 3)
def th79 := fun xs => gOf zr79 zo79 (argsT A79 (v79 tu79) xs)
def tu74 := U t74
theorem ue74 : tu74 = t74 := U_eq _
theorem te74 : ta74 tu79 = t74 := by rw [ue79]; rfl
def v74 (f : Y74) (w : List Vr) : Rs := f (vL w 0) (vI w 1) (vI w 2) (vI w 3)
def th74 := fun xs => gOf zr74 zo74 (argsT A74 (v74 tu74) xs)
def tu92 := U t92
theorem ue92 : tu92 = t92 := U_eq _
theorem te92 : ta92 tu79 tu93 = t92 := by rw [ue79, ue93]; rfl
def v92 (f : Y92) (w : List Vr) : Rs := f (vL w 0) (vI w 1) (vI w 2) (vI w 3)
def th92 := fun xs => gOf zr92 zo92 (argsT A92 (v92 tu92) xs)
def tu96 := U t96
theorem ue96 : tu96 = t96 := U_eq _
theorem te96 : ta96 tu74 tu79 tu92 = t96 := by rw [ue74, ue79, ue92]; rfl
def v96 (f : Y96) (w : List Vr) : Rs := f (vL w 0) (vI w 1) (vI w 2) (vI w 3) (vI w 4) (vI w 5)
def th96 := fun xs => gOf zr96 zo96 (argsT A96 (v96 tu96) xs)
def tu91 := U t91
theorem ue91 : tu91 = t91 := U_eq _
theorem te91 : ta91 tu74 tu79 tu92 tu96 = t91 := by rw [ue74, ue79, ue92, ue96]; rfl
def v91 (f : Y91) (w : List Vr) : Rs := f (vL w 0) (vI w 1) (vI w 2)
def th91 := fun xs => gOf zr91 zo91 (argsT A91 (v91 tu91) xs)
def tu81 := U t81
theorem ue81 : tu81 = t81 := U_eq _
theorem te81 : ta81 tu79 = t81 := by rw [ue79]; rfl
def v81 (f : Y81) (w : List Vr) : Rs := f (vL w 0) (vI w 1) (vI w 2) (vL w 3)
def th81 := fun xs => gOf zr81 zo81 (argsT A81 (v81 tu81) xs)
def tu73 := U t73
theorem ue73 : tu73 = t73 := U_eq _
theorem te73 : ta73 tu74 tu79 tu81 tu91 = t73 := by rw [ue74, ue79, ue81, ue91]; rfl
def v73 (f : Y73) (w : List Vr) : Rs := f (vL w 0) (vI w 1) (vI w 2)
def th73 := fun xs => gOf zr73 zo73 (argsT A73 (v73 tu73) xs)
def tu80 := U t80
theorem ue80 : tu80 = t80 := U_eq _
theorem te80 : ta80 tu74 tu79 tu81 tu92 = t80 := by rw [ue74, ue79, ue81, ue92]; rfl
def v80 (f : Y80) (w : List Vr) : Rs := f (vL w 0) (vI w 1) (vI w 2) (vI w 3) (vI w 4) (vI w 5) (vI w 6) (vS w 7) (vL w 8)
def th80 := fun xs => gOf zr80 zo80 (argsT A80 (v80 tu80) xs)
def tu53 := U t53
theorem ue53 : tu53 = t53 := U_eq _
theorem te53 : t53 = t53 := rfl
def v53 (f : Y53) (w : List Vr) : Rs := f (vI w 0) (vI w 1) (vI w 2) (vI w 3) (vS w 4) (vL w 5)
def th53 := fun xs => gOf zr53 zo53 (argsT A53 (v53 tu53) xs)
def tu83 := U t83
theorem ue83 : tu83 = t83 := U_eq _
theorem te83 : t83 = t83 := rfl
def v83 (f : Y83) (w : List Vr) : Rs := f (vI w 0) (vI w 1) (vI w 2)
def th83 := fun xs => gOf zr83 zo83 (argsT A83 (v83 tu83) xs)
def tu85 := U t85
theorem ue85 : tu85 = t85 := U_eq _
theorem te85 : ta85 tu83 = t85 := by rw [ue83]; rfl
def v85 (f : Y85) (w : List Vr) : Rs := f (vI w 0) (vI w 1) (vI w 2) (vI w 3) (vS w 4)
def th85 := fun xs => gOf zr85 zo85 (argsT A85 (v85 tu85) xs)
def tu94 := U t94
theorem ue94 : tu94 = t94 := U_eq _
theorem te94 : t94 = t94 := rfl
def v94 (f : Y94) (w : List Vr) : Rs := f (vI w 0) (vI w 1) (vI w 2) (vI w 3) (vS w 4) (vL w 5)
def th94 := fun xs => gOf zr94 zo94 (argsT A94 (v94 tu94) xs)
def tu86 := U t86
theorem ue86 : tu86 = t86 := U_eq _
theorem te86 : ta86 tu94 = t86 := by rw [ue94]; rfl
def v86 (f : Y86) (w : List Vr) : Rs := f (vI w 0) (vI w 1) (vI w 2) (vI w 3) (vS w 4) (vL w 5) (vI w 6) (vI w 7) (vI w 8) (vI w 9) (vS w 10)
def th86 := fun xs => gOf zr86 zo86 (argsT A86 (v86 tu86) xs)
def tu65 := U t65
theorem ue65 : tu65 = t65 := U_eq _
theorem te65 : t65 = t65 := rfl
def v65 (f : Y65) (w : List Vr) : Rs := f (vI w 0) (vI w 1) (vI w 2) (vI w 3) (vS w 4) (vL w 5) (vI w 6) (vI w 7)
def th65 := fun xs => gOf zr65 zo65 (argsT A65 (v65 tu65) xs)
def tu52 := U t52
theorem ue52 : tu52 = t52 := U_eq _
theorem te52 : ta52 tu65 tu85 tu86 = t52 := by rw [ue65, ue85, ue86]; rfl
def v52 (f : Y52) (w : List Vr) : Rs := f (vI w 0) (vI w 1) (vI w 2) (vI w 3) (vS w 4) (vL w 5) (vI w 6) (vI w 7) (vI w 8) (vI w 9) (vS w 10)
def th52 := fun xs => gOf zr52 zo52 (argsT A52 (v52 tu52) xs)
def tu78 := U t78
theorem ue78 : tu78 = t78 := U_eq _
theorem te78 : ta78 tu52 tu53 tu73 tu74 tu79 tu80 = t78 := by rw [ue52, ue53, ue73, ue74, ue79, ue80]; rfl
def v78 (f : Y78) (w : List Vr) : Rs := f (vL w 0) (vI w 1) (vI w 2)
def th78 := fun xs => gOf zr78 zo78 (argsT A78 (v78 tu78) xs)
def tu84 := U t84
theorem ue84 : tu84 = t84 := U_eq _
theorem te84 : ta84 tu83 = t84 := by rw [ue83]; rfl
def v84 (f : Y84) (w : List Vr) : Rs := f (vI w 0) (vI w 1)
def th84 := fun xs => gOf zr84 zo84 (argsT A84 (v84 tu84) xs)
def tu51 := U t51
theorem ue51 : tu51 = t51 := U_eq _
theorem te51 : ta51 tu83 tu84 = t51 := by rw [ue83, ue84]; rfl
def v51 (f : Y51) (w : List Vr) : Rs := f (vI w 0) (vI w 1) (vI w 2) (vI w 3) (vS w 4) (vL w 5)
def th51 := fun xs => gOf zr51 zo51 (argsT A51 (v51 tu51) xs)
def tu63 := U t63
theorem ue63 : tu63 = t63 := U_eq _
theorem te63 : ta63 tu52 tu53 = t63 := by rw [ue52, ue53]; rfl
def v63 (f : Y63) (w : List Vr) : Rs := f (vI w 0) (vI w 1) (vI w 2) (vI w 3) (vS w 4) (vL w 5) (vL w 6) (vI w 7)
def th63 := fun xs => gOf zr63 zo63 (argsT A63 (v63 tu63) xs)
def tu22 := U t22
theorem ue22 : tu22 = t22 := U_eq _
theorem te22 : ta22 tu51 tu63 = t22 := by rw [ue51, ue63]; rfl
def v22 (f : Y22) (w : List Vr) : Rs := f (vI w 0) (vI w 1) (vI w 2) (vI w 3) (vS w 4) (vL w 5) (vL w 6)
def th22 := fun xs => gOf zr22 zo22 (argsT A22 (v22 tu22) xs)
def tu31 := U t31
theorem ue31 : tu31 = t31 := U_eq _
theorem te31 : ta31 tu22 tu63 = t31 := by rw [ue22, ue63]; rfl
def v31 (f : Y31) (w : List Vr) : Rs := f (vI w 0) (vI w 1) (vI w 2) (vI w 3) (vS w 4) (vL w 5) (vL w 6)
def th31 := fun xs => gOf zr31 zo31 (argsT A31 (v31 tu31) xs)
def tu47 := U t47
theorem ue47 : tu47 = t47 := U_eq _
theorem te47 : ta47 tu31 tu52 tu53 tu72 tu74 tu78 tu79 tu80 tu81 = t47 := by rw [ue31, ue52, ue53, ue72, ue74, ue78, ue79, ue80, ue81]; rfl
def v47 (f : Y47) (w : List Vr) : Rs := f (vL w 0)
def th47 := fun xs => gOf zr47 zo47 (argsT A47 (v47 tu47) xs)
def tu76 := U t76
theorem ue76 : tu76 = t76 := U_eq _
theorem te76 : t76 = t76 := rfl
def v76 (f : Y76) (w : List Vr) : Rs := f (vI w 0) (vI w 1) (vI w 2)
def th76 := fun xs => gOf zr76 zo76 (argsT A76 (v76 tu76) xs)
def tu56 := U t56
theorem ue56 : tu56 = t56 := U_eq _
theorem te56 : ta56 tu76 = t56 := by rw [ue76]; rfl
def v56 (f : Y56) (w : List Vr) : Rs := f (vI w 0) (vI w 1) (vI w 2) (vI w 3) (vS w 4) (vL w 5)
def th56 := fun xs => gOf zr56 zo56 (argsT A56 (v56 tu56) xs)
def tu57 := U t57
theorem ue57 : tu57 = t57 := U_eq _
theorem te57 : t57 = t57 := rfl
def v57 (f : Y57) (w : List Vr) : Rs := f (vI w 0) (vI w 1) (vI w 2) (vI w 3) (vS w 4) (vL w 5)
def th57 := fun xs => gOf zr57 zo57 (argsT A57 (v57 tu57) xs)
def tu45 := U t45
theorem ue45 : tu45 = t45 := U_eq _
theorem te45 : ta45 tu76 = t45 := by rw [ue76]; rfl
def v45 (f : Y45) (w : List Vr) : Rs := f (vI w 0) (vI w 1) (vI w 2) (vI w 3) (vS w 4)
def th45 := fun xs => gOf zr45 zo45 (argsT A45 (v45 tu45) xs)
def tu95 := U t95
theorem ue95 : tu95 = t95 := U_eq _
theorem te95 : t95 = t95 := rfl
def v95 (f : Y95) (w : List Vr) : Rs := f (vI w 0) (vI w 1) (vI w 2) (vI w 3) (vS w 4) (vL w 5)
def th95 := fun xs => gOf zr95 zo95 (argsT A95 (v95 tu95) xs)
def tu88 := U t88
theorem ue88 : tu88 = t88 := U_eq _
theorem te88 : ta88 tu76 tu95 = t88 := by rw [ue76, ue95]; rfl
def v88 (f : Y88) (w : List Vr) : Rs := f (vI w 0) (vI w 1) (vI w 2) (vI w 3) (vS w 4) (vL w 5) (vI w 6) (vI w 7) (vI w 8) (vI w 9) (vS w 10)
def th88 := fun xs => gOf zr88 zo88 (argsT A88 (v88 tu88) xs)
def tu58 := U t58
theorem ue58 : tu58 = t58 := U_eq _
theorem te58 : ta58 tu45 tu88 = t58 := by rw [ue45, ue88]; rfl
def v58 (f : Y58) (w : List Vr) : Rs := f (vI w 0) (vI w 1) (vI w 2) (vI w 3) (vS w 4) (vL w 5) (vI w 6) (vI w 7) (vI w 8) (vI w 9) (vS w 10)
def th58 := fun xs => gOf zr58 zo58 (argsT A58 (v58 tu58) xs)
def tu64 := U t64
theorem ue64 : tu64 = t64 := U_eq _
theorem te64 : ta64 tu56 tu57 tu58 = t64 := by rw [ue56, ue57, ue58]; rfl
def v64 (f : Y64) (w : List Vr) : Rs := f (vI w 0) (vI w 1) (vI w 2) (vI w 3) (vS w 4) (vL w 5) (vL w 6)
def th64 := fun xs => gOf zr64 zo64 (argsT A64 (v64 tu64) xs)
def tu71 := U t71
theorem ue71 : tu71 = t71 := U_eq _
theorem te71 : ta71 tu57 = t71 := by rw [ue57]; rfl
def v71 (f : Y71) (w : List Vr) : Rs := f (vI w 0) (vI w 1) (vI w 2) (vI w 3) (vS w 4) (vL w 5) (vL w 6)
def th71 := fun xs => gOf zr71 zo71 (argsT A71 (v71 tu71) xs)
def tu42 := U t42
theorem ue42 : tu42 = t42 := U_eq _
theorem te42 : ta42 tu58 tu64 tu71 = t42 := by rw [ue58, ue64, ue71]; rfl
def v42 (f : Y42) (w : List Vr) : Rs := f (vI w 0) (vI w 1) (vI w 2) (vI w 3) (vS w 4) (vL w 5) (vL w 6) (vL w 7) (vI w 8)
def th42 := fun xs => gOf zr42 zo42 (argsT A42 (v42 tu42) xs)
def tu35 := U t35
theorem ue35 : tu35 = t35 := U_eq _
theorem te35 : ta35 tu64 = t35 := by rw [ue64]; rfl
def v35 (f : Y35) (w : List Vr) : Rs := f (vI w 0) (vI w 1) (vI w 2) (vI w 3) (vS w 4) (vL w 5) (vL w 6)
def th35 := fun xs => gOf zr35 zo35 (argsT A35 (v35 tu35) xs)
def tu48 := U t48
theorem ue48 : tu48 = t48 := U_eq _
theorem te48 : t48 = t48 := rfl
def v48 (f : Y48) (w : List Vr) : Rs := f (vL w 0) (vI w 1)
def th48 := fun xs => gOf zr48 zo48 (argsT A48 (v48 tu48) xs)
def tu14 := U t14
theorem ue14 : tu14 = t14 := U_eq _
theorem te14 : ta14 tu51 tu52 tu53 = t14 := by rw [ue51, ue52, ue53]; rfl
def v14 (f : Y14) (w : List Vr) : Rs := f (vI w 0) (vI w 1) (vI w 2) (vI w 3) (vS w 4) (vL w 5) (vI w 6) (vI w 7) (vI w 8) (vI w 9) (vS w 10)
def th14 := fun xs => gOf zr14 zo14 (argsT A14 (v14 tu14) xs)
def tu24 := U t24
theorem ue24 : tu24 = t24 := U_eq _
theorem te24 : ta24 tu64 = t24 := by rw [ue64]; rfl
def v24 (f : Y24) (w : List Vr) : Rs := f (vI w 0) (vI w 1) (vI w 2) (vI w 3) (vS w 4) (vL w 5) (vL w 6)
def th24 := fun xs => gOf zr24 zo24 (argsT A24 (v24 tu24) xs)
def tu32 := U t32
theorem ue32 : tu32 = t32 := U_eq _
theorem te32 : ta32 tu64 = t32 := by rw [ue64]; rfl
def v32 (f : Y32) (w : List Vr) : Rs := f (vI w 0) (vI w 1) (vI w 2) (vI w 3) (vS w 4) (vL w 5) (vL w 6)
def th32 := fun xs => gOf zr32 zo32 (argsT A32 (v32 tu32) xs)
def tu38 := U t38
theorem ue38 : tu38 = t38 := U_eq _
theorem te38 : ta38 tu24 tu32 = t38 := by rw [ue24, ue32]; rfl
def v38 (f : Y38) (w : List Vr) : Rs := f (vI w 0) (vI w 1) (vI w 2) (vI w 3) (vS w 4) (vL w 5) (vL w 6) (vI w 7)
def th38 := fun xs => gOf zr38 zo38 (argsT A38 (v38 tu38) xs)
def tu77 := U t77
theorem ue77 : tu77 = t77 := U_eq _
theorem te77 : t77 = t77 := rfl
def v77 (f : Y77) (w : List Vr) : Rs := f (vL w 0) (vL w 1)
def th77 := fun xs => gOf zr77 zo77 (argsT A77 (v77 tu77) xs)
def tu46 := U t46
theorem ue46 : tu46 = t46 := U_eq _
theorem te46 : ta46 tu77 = t46 := by rw [ue77]; rfl
def v46 (f : Y46) (w : List Vr) : Rs := f (vI w 0) (vI w 1) (vI w 2) (vI w 3) (vS w 4) (vL w 5) (vI w 6) (vI w 7) (vI w 8) (vI w 9) (vS w 10) (vL w 11)
def th46 := fun xs => gOf zr46 zo46 (argsT A46 (v46 tu46) xs)
def tu11 := U t11
theorem ue11 : tu11 = t11 := U_eq _
theorem te11 : ta11 tu14 tu22 tu31 tu32 tu35 tu38 tu42 tu43 tu46 tu47 tu48 = t11 := by rw [ue14, ue22, ue31, ue32, ue35, ue38, ue42, ue43, ue46, ue47, ue48]; rfl
def v11 (f : Y11) (w : List Vr) : Rs := f (vL w 0)
def th11 := fun xs => gOf zr11 zo11 (argsT A11 (v11 tu11) xs)
def sg43 : Sig := ⟨[.bor], .sc [.one (.b false)], [0, 2], []⟩
def sg72 : Sig := ⟨[.bor], .nptr [none, none, none], [0, 2, 3, 4, 15], []⟩
def sg93 : Sig := ⟨[.ptr [none, none, none]], .sc [.one (.i .i64 0)], [0, 2, 3, 34], [(2, dr 0 13), (3, dr 0 10), (4, dr 0 14 ++ [(14, 1, [])])]⟩
def sg79 : Sig := ⟨[.ptr [none, none, none], .bor], .sc [.one (.i .i64 0)], [0, 1, 4, 5, 6, 7, 8, 10, 12], []⟩
def sg74 : Sig := ⟨[.ptr [none, none, none], .bor], .sc [.one (.b false)], [0, 1, 4], []⟩
def sg92 : Sig := ⟨[.ptr [none, none, none], .bor], .sc [.one (.s ⟨#[]⟩)], [0, 1, 4, 5, 6, 7, 8, 17, 23, 27], []⟩
def sg96 : Sig := ⟨[.ptr [none, none, none], .bor, .bor, .bor], .fresh [[some (90, 2)]], [0, 1, 2, 3, 8, 9, 10, 17, 30, 35], []⟩
def sg91 : Sig := ⟨[.ptr [none, none, none]], .fresh [[none, none, none, none, none, some (90, 2)]], [0, 2, 3, 4, 17, 44, 60, 68], [(3, [(0, 0, [])] ++ dr 3 3 ++ [(8, 0, []), (1, 1, [3, 4, 5, 8]), (2, 0, []), (6, 1, [8, 2]), (7, 0, []), (9, 1, [2, 7]), (10, 0, []), (11, 0, []), (12, 1, [])]), (6, dr 0 5 ++ [(5, 1, [0, 1, 2, 3])] ++ dr 6 3 ++ [(9, 1, [])])]⟩
def sg81 : Sig := ⟨[.ptr [none, none, none], .bor], .sc [.one (.i .i64 0)], [0, 1, 4], []⟩
def sg73 : Sig := ⟨[.ptr [none, none, none]], .fresh [[none, none, none, none, none, some (90, 2)]], [0, 2, 3, 7, 9, 16, 22, 28, 35, 42], [(14, dr 0 3 ++ [(3, 1, [0, 1]), (4, 0, []), (5, 0, []), (6, 1, [0, 1]), (7, 1, []), (8, 0, []), (9, 1, [])]), (1000014, [(3200, 0, [])])]⟩
def sg80 : Sig := ⟨[.ptr [none, none, none], .bor], .sc [.agg [.i .i64 0, .i .i64 0, .i .i64 0, .i .i64 0, .s ⟨#[]⟩]], [0, 1, 3, 4, 5, 6, 7, 8, 9, 22, 56, 68, 81, 92, 106, 108, 116, 123, 129, 135, 141], [(11, dr 0 3 ++ [(3, 1, [0, 1])] ++ dr 4 3 ++ [(7, 1, [])]), (18, dr 0 8 ++ [(8, 1, [0, 1, 2]), (9, 0, []), (10, 0, []), (11, 1, [])]), (4, dr 0 8 ++ [(8, 1, [0, 1, 2]), (9, 0, []), (10, 0, []), (11, 1, [])])]⟩
def sg53 : Sig := ⟨[.bor], .fresh [[none, none, none, none, none, some (90, 2)]], [0, 1, 2], []⟩
def sg83 : Sig := ⟨[.bor, .bor, .bor], .sc [.one (.b false)], [0, 1, 2, 6], []⟩
def sg85 : Sig := ⟨[.bor], .sc [.one (.b false)], [0, 1, 2, 4, 5, 25, 46, 66], []⟩
def sg94 : Sig := ⟨[.bor], .sc [.one (.i .i64 0)], [0, 1, 2, 6], []⟩
def sg86 : Sig := ⟨[.bor, .bor], .sc [.one (.b false)], [0, 1, 2, 3, 4, 5, 14, 15, 41, 68, 82], [(6, dr 0 26)]⟩
def sg65 : Sig := ⟨[.bor, .bor, .bor], .fresh [[some (90, 2)]], [0, 1, 2, 3, 6, 7, 32], []⟩
def sg52 : Sig := ⟨[.own [none, none, none, none, none, some (90, 2)], .bor], .fresh [[none, none, none, none, none, some (90, 2)], [none]], [0, 1, 2, 3, 4, 5, 14, 17, 33, 41, 53], []⟩
def sg78 : Sig := ⟨[.ptr [none, none, none]], .fresh [[none, none, none, none, none, some (90, 2), some (38, 5)]], [0, 2, 3, 4, 5, 6, 7, 8, 17, 34], [(7, [(7, 2, []), (0, 0, []), (2, 0, []), (1, 1, [2]), (3, 1, [])] ++ dr 4 3 ++ [(8, 1, [6]), (9, 0, [])]), (1000003, [(192, 6, [38, 5])]), (3000010, [(16390, 0, [])]), (2000000, [(16390, 0, [])])]⟩
def sg84 : Sig := ⟨[.bor, .bor], .sc [.one (.b false)], [0, 1, 4, 6], []⟩
def sg51 : Sig := ⟨[.bor], .sc [.one (.b false)], [0, 1, 2, 3, 4, 5, 68, 76, 105], []⟩
def sg63 : Sig := ⟨[.bor, .bor], .freshT [.agg [.i .i64 0, .i .i64 0, .i .i64 0, .i .i64 0, .s ⟨#[]⟩, .l []], .one (.b false)] [[none, none, none, none, none, some (90, 2)], [none]], [0, 1, 2, 4, 5, 6, 7, 8, 9, 22, 36], [(5, [(10, 2, [])] ++ dr 0 6 ++ [(6, 1, [])] ++ dr 7 3 ++ [(11, 1, [9]), (12, 0, [])])]⟩
def sg22 : Sig := ⟨[.bor], .sc [.one (.b false)], [0, 1, 2, 4, 14, 1000020], []⟩
def sg31 : Sig := ⟨[.bor], .fresh [[none, none, none, none, none, some (90, 2)]], [0, 1, 2, 3, 7], []⟩
def sg47 : Sig := ⟨[.bor], .fresh [[none, none, none, none, none, some (90, 2), some (38, 5)], [some (38, 5)], [none]], [0, 2, 3, 4, 5, 6, 7, 8, 9, 10, 11, 12, 23, 41, 48], [(10, [(0, 0, []), (2, 0, []), (1, 1, [2]), (3, 1, [])] ++ dr 4 3 ++ [(7, 1, [6])]), (18, dr 0 3 ++ [(3, 1, [0, 1, 2]), (4, 1, [0, 1]), (5, 1, [1]), (6, 0, []), (7, 0, [])]), (3000010, [(28678, 0, [])])]⟩
def sg76 : Sig := ⟨[.bor, .bor, .bor], .sc [.one (.b false)], [0, 1, 2, 6], []⟩
def sg56 : Sig := ⟨[.bor], .sc [.one (.b false)], [0, 1, 2, 3, 5, 21, 48, 54, 55, 56, 57, 72], []⟩
def sg57 : Sig := ⟨[.bor], .fresh [[none, none, none, none, none, some (90, 2)]], [0, 1, 2], []⟩
def sg45 : Sig := ⟨[.bor], .sc [.one (.b false)], [0, 1, 2, 3, 4, 9, 10, 26, 51, 59], [(5, dr 0 5 ++ [(5, 1, [2, 3]), (6, 0, []), (7, 1, [])]), (8, dr 0 7 ++ [(7, 1, [2, 3, 4, 5]), (8, 0, []), (9, 1, [4, 5]), (10, 0, []), (11, 1, [])]), (14, dr 0 7 ++ [(7, 1, [2, 3, 4, 5]), (8, 0, []), (9, 1, [4, 5]), (10, 0, []), (11, 1, [])])]⟩
def sg95 : Sig := ⟨[.rptr 6], .sc [.one (.i .i64 0), .one (.i .i64 0)], [0, 2, 3, 4, 11], [(3, dr 0 12), (4, dr 0 18)]⟩
def sg88 : Sig := ⟨[.rptr 6, .bor], .sc [.one (.b false)], [0, 1, 3, 4, 5, 6, 13, 14, 48, 73], [(4, dr 0 33), (6, dr 0 24), (8, dr 0 11), (9, dr 0 18)]⟩
def sg58 : Sig := ⟨[.ptr [none, none, none, none, none, some (90, 2)], .bor], .sc [.one (.b false)], [0, 1, 3, 4, 5, 6, 7, 16, 18, 47, 70, 82, 98], [(14, dr 0 10 ++ [(10, 1, [0, 1, 2, 3, 4]), (11, 1, [0]), (12, 0, []), (13, 0, []), (14, 1, [])]), (16, dr 0 10), (5, dr 0 9), (6, dr 0 21)]⟩
def sg64 : Sig := ⟨[.rptr 7], .fresh [[none, none, none, none, none, some (90, 2)], [none]], [0, 2, 3, 4, 6, 20, 30, 31, 32, 33, 38], []⟩
def sg71 : Sig := ⟨[.bor], .fresh [[none, none, none, none, none, some (90, 2), some (38, 5)]], [0, 1, 2], [(1, [(0, 0, []), (1, 0, []), (3, 0, []), (4, 0, []), (2, 1, [3, 4]), (5, 1, []), (6, 0, []), (7, 1, [])])]⟩
def sg42 : Sig := ⟨[.bor, .bor, .bor], .fresh [[none, none, none, none, none, some (90, 2), some (38, 5)], [none]], [0, 1, 2, 3, 6, 7, 8, 9, 10, 11, 13, 19, 29, 30, 31, 32, 43], []⟩
def sg35 : Sig := ⟨[.bor], .fresh [[none, none, none, none, none, some (90, 2), some (38, 5)]], [0, 1, 2, 3, 4, 10], []⟩
def sg48 : Sig := ⟨[.bor, .bor], .sc [.one (.i .i64 0)], [0, 1, 4, 8], []⟩
def sg14 : Sig := ⟨[.bor, .bor], .fresh [[none, none, none, none, none, some (90, 2)], [none]], [0, 1, 2, 3, 4, 5, 6, 7, 10], [(3, [(7, 2, []), (0, 0, []), (2, 0, []), (1, 1, [2]), (3, 1, [])] ++ dr 4 3 ++ [(8, 1, [6]), (9, 0, [])])]⟩
def sg24 : Sig := ⟨[.bor], .sc [.one (.b false)], [0, 1, 2, 4], []⟩
def sg32 : Sig := ⟨[.bor], .fresh [[none, none, none, none, none, some (90, 2)]], [0, 1, 2, 3], []⟩
def sg38 : Sig := ⟨[.bor, .bor], .fresh [[none, none, none, none, none, some (90, 2), some (38, 5)]], [0, 1, 2, 4, 5, 8], [(3, [(12, 2, [])] ++ dr 0 10 ++ [(10, 1, [0, 1]), (11, 0, []), (13, 1, [])])]⟩
def sg77 : Sig := ⟨[.bor, .bor], .sc [.one (.b false)], [0, 1, 4, 5, 10, 14, 25], [(6, dr 0 9)]⟩
def sg46 : Sig := ⟨[.bor, .bor], .sc [.one (.b false)], [0, 1, 2, 3, 4], []⟩
def sg11 : Sig := ⟨[.bor], .sc [.one (.b false)], [0, 2, 3, 4, 5, 6, 7, 8, 9, 10, 11, 12, 13, 14, 15, 16, 18, 34, 87, 95, 108], [(16, [(9, 2, [])] ++ dr 0 5 ++ [(5, 1, [])] ++ dr 6 3 ++ [(10, 1, [8]), (11, 0, [])]), (21, dr 0 14 ++ [(15, 0, []), (14, 1, [15]), (16, 1, [])] ++ dr 17 16 ++ [(34, 0, []), (33, 1, [34]), (35, 1, [])] ++ dr 36 15), (3000019, [(49158, 0, [])])]⟩
def sig : Nat → Sig := lkF ⟨[], .fresh [], [], []⟩ [(43, sg43), (72, sg72), (93, sg93), (79, sg79), (74, sg74), (92, sg92), (96, sg96), (91, sg91), (81, sg81), (73, sg73), (80, sg80), (53, sg53), (83, sg83), (85, sg85), (94, sg94), (86, sg86), (65, sg65), (52, sg52), (78, sg78), (84, sg84), (51, sg51), (63, sg63), (22, sg22), (31, sg31), (47, sg47), (76, sg76), (56, sg56), (57, sg57), (45, sg45), (95, sg95), (88, sg88), (58, sg58), (64, sg64), (71, sg71), (42, sg42), (35, sg35), (48, sg48), (14, sg14), (24, sg24), (32, sg32), (38, sg38), (77, sg77), (46, sg46), (11, sg11)]
def dep : Nat → Nat := lkF 0 [(43, 1), (72, 1), (93, 1), (79, 2), (74, 3), (92, 3), (96, 4), (91, 5), (81, 3), (73, 6), (80, 4), (53, 1), (83, 1), (85, 2), (94, 1), (86, 2), (65, 1), (52, 3), (78, 7), (84, 2), (51, 3), (63, 4), (22, 5), (31, 6), (47, 8), (76, 1), (56, 2), (57, 1), (45, 2), (95, 1), (88, 2), (58, 3), (64, 4), (71, 2), (42, 5), (35, 5), (48, 1), (14, 4), (24, 5), (32, 5), (38, 6), (77, 1), (46, 2), (11, 9)]
def gT : List (Nat × (List DV → Bool × List DV × List (List D))) := [(43, th43), (72, th72), (93, th93), (79, th79), (74, th74), (92, th92), (96, th96), (91, th91), (81, th81), (73, th73), (80, th80), (53, th53), (83, th83), (85, th85), (94, th94), (86, th86), (65, th65), (52, th52), (78, th78), (84, th84), (51, th51), (63, th63), (22, th22), (31, th31), (47, th47), (76, th76), (56, th56), (57, th57), (45, th45), (95, th95), (88, th88), (58, th58), (64, th64), (71, th71), (42, th42), (35, th35), (48, th48), (14, th14), (24, th24), (32, th32), (38, th38), (77, th77), (46, th46), (11, th11)]
def G : Nat → List DV → Bool × List DV × List (List D) := lkF (fun _ => (false, [], [])) gT
noncomputable def mkC (f : Nat) : Ctx := ⟨Try.prog, sig, Gd G dep (dep f), (sig f).keep, (sig f).ord⟩
noncomputable def gc (f : Func) : Code := f.body.getD .skip
noncomputable def bd (c : Code) (n : Nat) : Code := match nodeAt c n with | some (.loop a) => a | _ => .skip
def Rp (tw : List Vr → Rs) (C : Ctx) (S : LT) (fn : Func) (sg : Sig) (c : Code) (A : List TA) : Prop := ∀ w, tw w = bodyK C (lkS S) fn sg c (fillAs A 0 w)
theorem okM {Y : Type} {f : Nat} {fn : Func} {S : LT} {A : List TA} {v : Y → List Vr → Rs} {a t u : Y} {c : Code} {zr : List DV} {zo : List (List D)} (r : Rp (v a) (mkC f) S fn (sig f) c A) (hf : Try.prog.funcs[f]? = some fn) (hb : fn.body = some c) (hs : AllS (mkC f) KK c 0 S) (e : a = t) (hu : u = t) : OkS sig (Gd G dep (dep f)) f (fun xs => gOf zr zo (argsT A (v u) xs)) := fun xs q h => body_ok hf hb A (v a) (sums_of hs) r (by rw [e, ← hu]; exact opt_gOf h)
def C43 := mkC 43
def c43 := gc Try.f43
def ST43 : LT := []
theorem r43 : Rp (v43 t43) C43 ST43 Try.f43 (sig 43) c43 A43 := fun w => by kernel_rfl
theorem ok43 : OkS sig (Gd G dep (dep 43)) 43 th43 := okM (v := v43) r43 Try.func43 rfl trivial te43 ue43
def C72 := mkC 72
def c72 := gc Try.f72
def T72o0 : TSt := ⟨[dL, .nilp, dI, dI, .any], []⟩
def X72o0e1 : TSt := ⟨[dL, .nilp, dI, dI, dB], []⟩
def L72o0 (m : Nat) (w : List Vr) (K : KT) : Rs := l72o0 (vL w 0) (fun n13 n14 b15 => K (.exit 0) (fillS X72o0e1 [jL w 0, .i n13, .i n14, .b b15])) m (vI w 1) (vI w 2) (vV w 3)
def ST72 : LT := [(0, sumT T72o0 (L72o0 KK))]
def b72o0 := bd c72 0
theorem q72o0 : Qp L72o0 C72 ST72 b72o0 1 T72o0 := fun m w K => by kernel_rfl
theorem o72o0 : SumOk C72 KK (sumT T72o0 (L72o0 KK)) (.loop b72o0) := loop_ok T72o0 L72o0 (sums_of (t := ST72) ⟨fun _ _ h => absurd h (by decide), trivial⟩) (fun _ _ => rfl) q72o0
theorem r72 : Rp (v72 t72) C72 ST72 Try.f72 (sig 72) c72 A72 := fun w => by kernel_rfl
theorem ok72 : OkS sig (Gd G dep (dep 72)) 72 th72 := okM (v := v72) r72 Try.func72 rfl ⟨sum_in (c' := .loop b72o0) (by kernel_rfl) (o72o0), trivial⟩ te72 ue72
def C93 := mkC 93
def c93 := gc Try.f93
def ST93 : LT := []
theorem r93 : Rp (v93 t93) C93 ST93 Try.f93 (sig 93) c93 A93 := fun w => by kernel_rfl
theorem ok93 : OkS sig (Gd G dep (dep 93)) 93 th93 := okM (v := v93) r93 Try.func93 rfl trivial te93 ue93
def C79 := mkC 79
def c79 := gc Try.f79
def ST79 : LT := []
theorem r79 : Rp (v79 (ta79 tu93)) C79 ST79 Try.f79 (sig 79) c79 A79 := fun w => by kernel_rfl
theorem ok79 : OkS sig (Gd G dep (dep 79)) 79 th79 := okM (v := v79) r79 Try.func79 rfl trivial te79 ue79
def C74 := mkC 74
def c74 := gc Try.f74
def ST74 : LT := []
theorem r74 : Rp (v74 (ta74 tu79)) C74 ST74 Try.f74 (sig 74) c74 A74 := fun w => by kernel_rfl
theorem ok74 : OkS sig (Gd G dep (dep 74)) 74 th74 := okM (v := v74) r74 Try.func74 rfl trivial te74 ue74
def C92 := mkC 92
def c92 := gc Try.f92
def T92o0 : TSt := ⟨[.ptr 0 0, dI, dS, .own 576, dI, dI, .any, .any, .any, .any], [bn0, (576, .row 5 1)]⟩
def X92o0e1 : TSt := ⟨[.ptr 0 0, dI, dS, .own 576, dI, dI, .any, dB, .any, .any], [bn0, (576, .row 5 1)]⟩
def L92o0 (m : Nat) (w : List Vr) (K : KT) : Rs := la92o0 tu79 tu93 (vI w 0) (vS w 1) (vI w 2) (vL w 8) (fun n41 v42 b43 v44 v45 n46 n47 l48 => K (.exit 0) (fillS X92o0e1 [jI w 0, jS w 1, jI w 2, .i n41, .v v42, .b b43, .v v44, .v v45, jL w 8, .i n46, .i n47, .l l48])) m (vI w 3) (vV w 4) (vV w 5) (vV w 6) (vV w 7) (vI w 9) (vI w 10) (vL w 11)
def ST92 : LT := [(0, sumT T92o0 (L92o0 KK))]
def b92o0 := bd c92 0
theorem q92o0 : Qp L92o0 C92 ST92 b92o0 1 T92o0 := fun m w K => by kernel_rfl
theorem o92o0 : SumOk C92 KK (sumT T92o0 (L92o0 KK)) (.loop b92o0) := loop_ok T92o0 L92o0 (sums_of (t := ST92) ⟨fun _ _ h => absurd h (by decide), trivial⟩) (fun _ _ => rfl) q92o0
theorem r92 : Rp (v92 (ta92 tu79 tu93)) C92 ST92 Try.f92 (sig 92) c92 A92 := fun w => by kernel_rfl
theorem ok92 : OkS sig (Gd G dep (dep 92)) 92 th92 := okM (v := v92) r92 Try.func92 rfl ⟨sum_in (c' := .loop b92o0) (by kernel_rfl) (o92o0), trivial⟩ te92 ue92
def C96 := mkC 96
def c96 := gc Try.f96
def T96o0 : TSt := ⟨[.ptr 0 0, dI, dI, dI, .nils, .own 704, dI, .any, .any, .any], [bn0, (704, .row 90 2)]⟩
def X96o0e1 : TSt := ⟨[.ptr 0 0, dI, dI, dI, .own 704, .own 704, dI, dB, dB, dB], [bn0, (704, .row 90 2)]⟩
def X96o0e2 : TSt := ⟨[.ptr 0 0, dI, dI, dI, .nils, .own 704, dI, dB, .any, .any], [bn0, (704, .row 90 2)]⟩
def L96o0 (m : Nat) (w : List Vr) (K : KT) : Rs := la96o0 tu74 tu79 tu92 (vI w 0) (vI w 2) (vL w 7) (fun n52 n53 b54 b55 b56 n57 n58 l59 => K .ret (fillS X96o0e1 [jI w 0, .i n52, jI w 2, .i n53, .b b54, .b b55, .b b56, jL w 7, .i n57, .i n58, .l l59])) (fun n60 n61 b62 v63 v64 n65 n66 l67 => K (.exit 0) (fillS X96o0e2 [jI w 0, .i n60, jI w 2, .i n61, .b b62, .v v63, .v v64, jL w 7, .i n65, .i n66, .l l67])) m (vI w 1) (vI w 3) (vV w 4) (vV w 5) (vV w 6) (vI w 8) (vI w 9) (vL w 10)
def ST96 : LT := [(0, sumT T96o0 (L96o0 KK))]
def b96o0 := bd c96 0
theorem q96o0 : Qp L96o0 C96 ST96 b96o0 1 T96o0 := fun m w K => by kernel_rfl
theorem o96o0 : SumOk C96 KK (sumT T96o0 (L96o0 KK)) (.loop b96o0) := loop_ok T96o0 L96o0 (sums_of (t := ST96) ⟨fun _ _ h => absurd h (by decide), trivial⟩) (fun _ _ => rfl) q96o0
theorem r96 : Rp (v96 (ta96 tu74 tu79 tu92)) C96 ST96 Try.f96 (sig 96) c96 A96 := fun w => by kernel_rfl
theorem ok96 : OkS sig (Gd G dep (dep 96)) 96 th96 := okM (v := v96) r96 Try.func96 rfl ⟨sum_in (c' := .loop b96o0) (by kernel_rfl) (o96o0), trivial⟩ te96 ue96
def C91 := mkC 91
def c91 := gc Try.f91
def T91o3 : TSt := ⟨[.ptr 0 0, .ptr 128 0, .ptr 192 0, dI, dB, dB, dB, .any], [bn0, (128, bx2), (192, bx4), (12294, .row 90 2)]⟩
def X91o3e1 : TSt := ⟨[.ptr 0 0, .ptr 128 0, .ptr 192 0, dI, dB, dB, dB, dB], [bn0, (128, bx2), (192, bx4), (12294, .row 90 2)]⟩
def L91o3 (m : Nat) (w : List Vr) (K : KT) : Rs := la91o3 tu74 tu79 tu92 tu96 (vI w 0) (vB w 1) (vB w 2) (vB w 3) (vL w 5) (vI w 6) (vI w 7) (vI w 8) (vI w 9) (vI w 10) (vI w 11) (vS w 12) (vI w 13) (vI w 14) (vI w 15) (vI w 16) (vS w 17) (fun b70 l71 => K (.exit 0) (fillS X91o3e1 [jI w 0, jB w 1, jB w 2, jB w 3, .b b70, jL w 5, jI w 6, jI w 7, jI w 8, jI w 9, jI w 10, jI w 11, jS w 12, jI w 13, jI w 14, jI w 15, jI w 16, jS w 17, .l l71])) m (vV w 4) (vL w 18)
def ST91 : LT := [(3, sumT T91o3 (L91o3 KK))]
def b91o3 := bd c91 3
theorem q91o3 : Qp L91o3 C91 ST91 b91o3 4 T91o3 := fun m w K => by kernel_rfl
theorem o91o3 : SumOk C91 KK (sumT T91o3 (L91o3 KK)) (.loop b91o3) := loop_ok T91o3 L91o3 (sums_of (t := ST91) ⟨fun _ _ h => absurd h (by decide), trivial⟩) (fun _ _ => rfl) q91o3
theorem r91 : Rp (v91 (ta91 tu74 tu79 tu92 tu96)) C91 ST91 Try.f91 (sig 91) c91 A91 := fun w => by kernel_rfl
theorem ok91 : OkS sig (Gd G dep (dep 91)) 91 th91 := okM (v := v91) r91 Try.func91 rfl ⟨sum_in (c' := .loop b91o3) (by kernel_rfl) (o91o3), trivial⟩ te91 ue91
def C81 := mkC 81
def c81 := gc Try.f81
def ST81 : LT := []
theorem r81 : Rp (v81 (ta81 tu79)) C81 ST81 Try.f81 (sig 81) c81 A81 := fun w => by kernel_rfl
theorem ok81 : OkS sig (Gd G dep (dep 81)) 81 th81 := okM (v := v81) r81 Try.func81 rfl trivial te81 ue81
def C73 := mkC 73
def c73 := gc Try.f73
def ST73 : LT := []
theorem r73 : Rp (v73 (ta73 tu74 tu79 tu81 tu91)) C73 ST73 Try.f73 (sig 73) c73 A73 := fun w => by kernel_rfl
theorem ok73 : OkS sig (Gd G dep (dep 73)) 73 th73 := okM (v := v73) r73 Try.func73 rfl trivial te73 ue73
def C80 := mkC 80
def c80 := gc Try.f80
def T80o9 : TSt := ⟨[.ptr 0 0, ag1, .ptr 192 0, .ptr 256 0, .ptr 320 0, dI, .undef, dI, .own 7168, dI, .undef, dB, .undef, .undef, dB, dI, .any, dB, dB, dB, dB], [bn0, bn2, bn4, bn5, (7168, .row 5 1)]⟩
def X80o9e1 : TSt := ⟨[.ptr 0 0, ag1, .ptr 192 0, .ptr 256 0, .ptr 320 0, dI, .undef, dI, .own 7168, dI, .undef, dB, .undef, .undef, dB, dI, dB, dB, dB, dB, dB], [bn0, bn2, bn4, bn5, (7168, .row 5 1)]⟩
def L80o9 (m : Nat) (w : List Vr) (K : KT) : Rs := la80o9 tu74 tu79 tu81 tu92 (vI w 0) (vI w 1) (vI w 2) (vI w 3) (vS w 4) (vL w 5) (vI w 6) (vI w 7) (vI w 8) (vB w 9) (vB w 10) (vI w 11) (vB w 13) (vB w 14) (vB w 15) (vB w 16) (vL w 17) (vI w 18) (vI w 19) (vI w 20) (vI w 21) (vI w 22) (vI w 23) (vS w 24) (vL w 25) (vI w 26) (vI w 27) (vI w 28) (vI w 29) (vS w 30) (vI w 31) (vI w 32) (vI w 33) (vI w 34) (vS w 35) (fun b126 l127 => K (.exit 2) (fillS X80o9e1 [jI w 0, jI w 1, jI w 2, jI w 3, jS w 4, jL w 5, jI w 6, jI w 7, jI w 8, jB w 9, jB w 10, jI w 11, .b b126, jB w 13, jB w 14, jB w 15, jB w 16, jL w 17, jI w 18, jI w 19, jI w 20, jI w 21, jI w 22, jI w 23, jS w 24, jL w 25, jI w 26, jI w 27, jI w 28, jI w 29, jS w 30, jI w 31, jI w 32, jI w 33, jI w 34, jS w 35, .l l127])) m (vV w 12) (vL w 36)
def T80o100009 : TSt := ⟨[.ptr 0 0, ag1, .ptr 192 0, .ptr 256 0, .ptr 320 0, dI, .undef, dI, .own 7168, dI, .undef, dB, dB, .undef, dB, dI, .any, dB, dB, dB, dB], [bn0, bn2, bn4, bn5, (7168, .row 5 1)]⟩
def X80o100009e1 : TSt := ⟨[.ptr 0 0, ag1, .ptr 192 0, .ptr 256 0, .ptr 320 0, dI, .undef, dI, .own 7168, dI, .undef, dB, dB, .undef, dB, dI, dB, dB, dB, dB, dB], [bn0, bn2, bn4, bn5, (7168, .row 5 1)]⟩
def L80o100009 (m : Nat) (w : List Vr) (K : KT) : Rs := la80o100009 tu74 tu79 tu81 tu92 (vI w 0) (vI w 1) (vI w 2) (vI w 3) (vS w 4) (vL w 5) (vI w 6) (vI w 7) (vI w 8) (vB w 9) (vB w 10) (vB w 11) (vI w 12) (vB w 14) (vB w 15) (vB w 16) (vB w 17) (vL w 18) (vI w 19) (vI w 20) (vI w 21) (vI w 22) (vI w 23) (vI w 24) (vS w 25) (vL w 26) (vI w 27) (vI w 28) (vI w 29) (vI w 30) (vS w 31) (vI w 32) (vI w 33) (vI w 34) (vI w 35) (vS w 36) (fun b243 l244 => K (.exit 2) (fillS X80o100009e1 [jI w 0, jI w 1, jI w 2, jI w 3, jS w 4, jL w 5, jI w 6, jI w 7, jI w 8, jB w 9, jB w 10, jB w 11, jI w 12, .b b243, jB w 14, jB w 15, jB w 16, jB w 17, jL w 18, jI w 19, jI w 20, jI w 21, jI w 22, jI w 23, jI w 24, jS w 25, jL w 26, jI w 27, jI w 28, jI w 29, jI w 30, jS w 31, jI w 32, jI w 33, jI w 34, jI w 35, jS w 36, .l l244])) m (vV w 13) (vL w 37)
def T80o200009 : TSt := ⟨[.ptr 0 0, ag1, .ptr 192 0, .ptr 256 0, .ptr 320 0, dI, dI, dI, .own 7168, dI, dB, dB, dB, dB, dB, dI, .any, dB, dB, dB, dB], [bn0, bn2, bn4, bn5, (7168, .row 5 1)]⟩
def X80o200009e1 : TSt := ⟨[.ptr 0 0, ag1, .ptr 192 0, .ptr 256 0, .ptr 320 0, dI, dI, dI, .own 7168, dI, dB, dB, dB, dB, dB, dI, dB, dB, dB, dB, dB], [bn0, bn2, bn4, bn5, (7168, .row 5 1)]⟩
def L80o200009 (m : Nat) (w : List Vr) (K : KT) : Rs := la80o200009 tu74 tu79 tu81 tu92 (vI w 0) (vI w 1) (vI w 2) (vI w 3) (vS w 4) (vL w 5) (vI w 6) (vI w 7) (vI w 8) (vI w 9) (vB w 10) (vB w 11) (vB w 12) (vB w 13) (vB w 14) (vI w 15) (vB w 17) (vB w 18) (vB w 19) (vB w 20) (vL w 21) (vI w 22) (vI w 23) (vI w 24) (vI w 25) (vI w 26) (vI w 27) (vS w 28) (vL w 29) (vI w 30) (vI w 31) (vI w 32) (vI w 33) (vS w 34) (vI w 35) (vI w 36) (vI w 37) (vI w 38) (vS w 39) (fun b369 l370 => K (.exit 2) (fillS X80o200009e1 [jI w 0, jI w 1, jI w 2, jI w 3, jS w 4, jL w 5, jI w 6, jI w 7, jI w 8, jI w 9, jB w 10, jB w 11, jB w 12, jB w 13, jB w 14, jI w 15, .b b369, jB w 17, jB w 18, jB w 19, jB w 20, jL w 21, jI w 22, jI w 23, jI w 24, jI w 25, jI w 26, jI w 27, jS w 28, jL w 29, jI w 30, jI w 31, jI w 32, jI w 33, jS w 34, jI w 35, jI w 36, jI w 37, jI w 38, jS w 39, .l l370])) m (vV w 16) (vL w 40)
def T80o300009 : TSt := ⟨[.ptr 0 0, ag1, .ptr 192 0, .ptr 256 0, .ptr 320 0, dI, .undef, dI, .own 7168, dI, .undef, dB, dB, dB, dB, dI, .any, dB, dB, dB, dB], [bn0, bn2, bn4, bn5, (7168, .row 5 1)]⟩
def X80o300009e1 : TSt := ⟨[.ptr 0 0, ag1, .ptr 192 0, .ptr 256 0, .ptr 320 0, dI, .undef, dI, .own 7168, dI, .undef, dB, dB, dB, dB, dI, dB, dB, dB, dB, dB], [bn0, bn2, bn4, bn5, (7168, .row 5 1)]⟩
def L80o300009 (m : Nat) (w : List Vr) (K : KT) : Rs := la80o300009 tu74 tu79 tu81 tu92 (vI w 0) (vI w 1) (vI w 2) (vI w 3) (vS w 4) (vL w 5) (vI w 6) (vI w 7) (vI w 8) (vB w 9) (vB w 10) (vB w 11) (vB w 12) (vI w 13) (vB w 15) (vB w 16) (vB w 17) (vB w 18) (vL w 19) (vI w 20) (vI w 21) (vI w 22) (vI w 23) (vI w 24) (vI w 25) (vS w 26) (vL w 27) (vI w 28) (vI w 29) (vI w 30) (vI w 31) (vS w 32) (vI w 33) (vI w 34) (vI w 35) (vI w 36) (vS w 37) (fun b489 l490 => K (.exit 2) (fillS X80o300009e1 [jI w 0, jI w 1, jI w 2, jI w 3, jS w 4, jL w 5, jI w 6, jI w 7, jI w 8, jB w 9, jB w 10, jB w 11, jB w 12, jI w 13, .b b489, jB w 15, jB w 16, jB w 17, jB w 18, jL w 19, jI w 20, jI w 21, jI w 22, jI w 23, jI w 24, jI w 25, jS w 26, jL w 27, jI w 28, jI w 29, jI w 30, jI w 31, jS w 32, jI w 33, jI w 34, jI w 35, jI w 36, jS w 37, .l l490])) m (vV w 14) (vL w 38)
def ST80 : LT := [(9, altS T80o9 (sumT T80o9 (L80o9 KK)) (altS T80o100009 (sumT T80o100009 (L80o100009 KK)) (altS T80o200009 (sumT T80o200009 (L80o200009 KK)) (sumT T80o300009 (L80o300009 KK)))))]
def b80o9 := bd c80 9
theorem q80o9 : Qp L80o9 C80 ST80 b80o9 10 T80o9 := fun m w K => by kernel_rfl
theorem o80o9 : SumOk C80 KK (sumT T80o9 (L80o9 KK)) (.loop b80o9) := loop_ok T80o9 L80o9 (sums_of (t := ST80) ⟨fun _ _ h => absurd h (by decide), trivial⟩) (fun _ _ => rfl) q80o9
theorem q80o100009 : Qp L80o100009 C80 ST80 b80o9 10 T80o100009 := fun m w K => by kernel_rfl
theorem o80o100009 : SumOk C80 KK (sumT T80o100009 (L80o100009 KK)) (.loop b80o9) := loop_ok T80o100009 L80o100009 (sums_of (t := ST80) ⟨fun _ _ h => absurd h (by decide), trivial⟩) (fun _ _ => rfl) q80o100009
theorem q80o200009 : Qp L80o200009 C80 ST80 b80o9 10 T80o200009 := fun m w K => by kernel_rfl
theorem o80o200009 : SumOk C80 KK (sumT T80o200009 (L80o200009 KK)) (.loop b80o9) := loop_ok T80o200009 L80o200009 (sums_of (t := ST80) ⟨fun _ _ h => absurd h (by decide), trivial⟩) (fun _ _ => rfl) q80o200009
theorem q80o300009 : Qp L80o300009 C80 ST80 b80o9 10 T80o300009 := fun m w K => by kernel_rfl
theorem o80o300009 : SumOk C80 KK (sumT T80o300009 (L80o300009 KK)) (.loop b80o9) := loop_ok T80o300009 L80o300009 (sums_of (t := ST80) ⟨fun _ _ h => absurd h (by decide), trivial⟩) (fun _ _ => rfl) q80o300009
theorem r80 : Rp (v80 (ta80 tu74 tu79 tu81 tu92)) C80 ST80 Try.f80 (sig 80) c80 A80 := fun w => by kernel_rfl
theorem ok80 : OkS sig (Gd G dep (dep 80)) 80 th80 := okM (v := v80) r80 Try.func80 rfl ⟨sum_in (c' := .loop b80o9) (by kernel_rfl) (alt_ok o80o9 (alt_ok o80o100009 (alt_ok o80o200009 (o80o300009)))), trivial⟩ te80 ue80
def C53 := mkC 53
def c53 := gc Try.f53
def ST53 : LT := []
theorem r53 : Rp (v53 t53) C53 ST53 Try.f53 (sig 53) c53 A53 := fun w => by kernel_rfl
theorem ok53 : OkS sig (Gd G dep (dep 53)) 53 th53 := okM (v := v53) r53 Try.func53 rfl trivial te53 ue53
def C83 := mkC 83
def c83 := gc Try.f83
def ST83 : LT := []
theorem r83 : Rp (v83 t83) C83 ST83 Try.f83 (sig 83) c83 A83 := fun w => by kernel_rfl
theorem ok83 : OkS sig (Gd G dep (dep 83)) 83 th83 := okM (v := v83) r83 Try.func83 rfl trivial te83 ue83
def C85 := mkC 85
def c85 := gc Try.f85
def ST85 : LT := []
theorem r85 : Rp (v85 (ta85 tu83)) C85 ST85 Try.f85 (sig 85) c85 A85 := fun w => by kernel_rfl
theorem ok85 : OkS sig (Gd G dep (dep 85)) 85 th85 := okM (v := v85) r85 Try.func85 rfl trivial te85 ue85
def C94 := mkC 94
def c94 := gc Try.f94
def ST94 : LT := []
theorem r94 : Rp (v94 t94) C94 ST94 Try.f94 (sig 94) c94 A94 := fun w => by kernel_rfl
theorem ok94 : OkS sig (Gd G dep (dep 94)) 94 th94 := okM (v := v94) r94 Try.func94 rfl trivial te94 ue94
def C86 := mkC 86
def c86 := gc Try.f86
def ST86 : LT := []
theorem r86 : Rp (v86 (ta86 tu94)) C86 ST86 Try.f86 (sig 86) c86 A86 := fun w => by kernel_rfl
theorem ok86 : OkS sig (Gd G dep (dep 86)) 86 th86 := okM (v := v86) r86 Try.func86 rfl trivial te86 ue86
def C65 := mkC 65
def c65 := gc Try.f65
def ST65 : LT := []
theorem r65 : Rp (v65 t65) C65 ST65 Try.f65 (sig 65) c65 A65 := fun w => by kernel_rfl
theorem ok65 : OkS sig (Gd G dep (dep 65)) 65 th65 := okM (v := v65) r65 Try.func65 rfl trivial te65 ue65
def C52 := mkC 52
def c52 := gc Try.f52
def ST52 : LT := []
theorem r52 : Rp (v52 (ta52 tu65 tu85 tu86)) C52 ST52 Try.f52 (sig 52) c52 A52 := fun w => by kernel_rfl
theorem ok52 : OkS sig (Gd G dep (dep 52)) 52 th52 := okM (v := v52) r52 Try.func52 rfl trivial te52 ue52
def C78 := mkC 78
def c78 := gc Try.f78
def T78o0 : TSt := ⟨[.ptr 0 0, .ptr 128 0, .ptr 192 0, .ptr 256 0, dI, .undef, .undef, .any, .any, .any], [bn0, bn1, bn3, (256, bx4), (12294, .row 90 2), (12295, .row 38 5)]⟩
def X78o0e1 : TSt := ⟨[.ptr 0 0, .ptr 128 0, .ptr 192 0, .ptr 256 0, dI, .undef, .undef, .any, dB, .any], [bn0, bn1, bn3, (256, bx4), (12294, .row 90 2), (12295, .row 38 5)]⟩
def X78o0e2 : TSt := ⟨[.ptr 0 0, .ptr 128 0, .ptr 192 0, .ptr 256 0, dI, .undef, .undef, dB, dB, dB], [bn0, bn1, bn3, (256, bx5), (12294, .row 90 2), (12295, .row 38 5), (16390, .row 90 2)]⟩
def L78o0 (m : Nat) (w : List Vr) (K : KT) : Rs := la78o0 tu52 tu53 tu73 tu74 tu79 tu80 (fun n53 v54 b55 v56 l57 n58 n59 n60 n61 n62 n63 s64 n65 n66 n67 n68 s69 n70 n71 n72 n73 s74 l75 l76 => K (.exit 0) (fillS X78o0e1 [.i n53, .v v54, .b b55, .v v56, .l l57, .i n58, .i n59, .i n60, .i n61, .i n62, .i n63, .s s64, .i n65, .i n66, .i n67, .i n68, .s s69, .i n70, .i n71, .i n72, .i n73, .s s74, .l l75, .l l76])) (fun n77 b78 b79 b80 l81 n82 n83 n84 n85 n86 n87 s88 n89 n90 n91 n92 s93 n94 n95 n96 n97 s98 l99 l100 l101 => K (.exit 0) (fillS X78o0e2 [.i n77, .b b78, .b b79, .b b80, .l l81, .i n82, .i n83, .i n84, .i n85, .i n86, .i n87, .s s88, .i n89, .i n90, .i n91, .i n92, .s s93, .i n94, .i n95, .i n96, .i n97, .s s98, .l l99, .l l100, .l l101])) m (vI w 0) (vV w 1) (vV w 2) (vV w 3) (vL w 4) (vI w 5) (vI w 6) (vI w 7) (vI w 8) (vI w 9) (vI w 10) (vS w 11) (vI w 12) (vI w 13) (vI w 14) (vI w 15) (vS w 16) (vI w 17) (vI w 18) (vI w 19) (vI w 20) (vS w 21) (vL w 22) (vL w 23)
def T78o10000000 : TSt := ⟨[.ptr 0 0, .ptr 128 0, .ptr 192 0, .ptr 256 0, dI, .undef, .undef, dB, dB, dB], [bn0, bn1, bn3, (256, bx5), (12294, .row 90 2), (12295, .row 38 5), (16390, .row 90 2)]⟩
def X78o10000000e1 : TSt := ⟨[.ptr 0 0, .ptr 128 0, .ptr 192 0, .ptr 256 0, dI, .undef, .undef, .any, dB, .any], [bn0, bn1, bn3, (256, bx4), (12294, .row 90 2), (12295, .row 38 5)]⟩
def X78o10000000e2 : TSt := ⟨[.ptr 0 0, .ptr 128 0, .ptr 192 0, .ptr 256 0, dI, .undef, .undef, dB, dB, dB], [bn0, bn1, bn3, (256, bx5), (12294, .row 90 2), (12295, .row 38 5), (16390, .row 90 2)]⟩
def L78o10000000 (m : Nat) (w : List Vr) (K : KT) : Rs := la78o10000000 tu52 tu53 tu73 tu74 tu79 tu80 (fun n53 v54 b55 v56 l57 n58 n59 n60 n61 n62 n63 s64 n65 n66 n67 n68 s69 n70 n71 n72 n73 s74 l75 l76 => K (.exit 0) (fillS X78o10000000e1 [.i n53, .v v54, .b b55, .v v56, .l l57, .i n58, .i n59, .i n60, .i n61, .i n62, .i n63, .s s64, .i n65, .i n66, .i n67, .i n68, .s s69, .i n70, .i n71, .i n72, .i n73, .s s74, .l l75, .l l76])) (fun n77 b78 b79 b80 l81 n82 n83 n84 n85 n86 n87 s88 n89 n90 n91 n92 s93 n94 n95 n96 n97 s98 l99 l100 l101 => K (.exit 0) (fillS X78o10000000e2 [.i n77, .b b78, .b b79, .b b80, .l l81, .i n82, .i n83, .i n84, .i n85, .i n86, .i n87, .s s88, .i n89, .i n90, .i n91, .i n92, .s s93, .i n94, .i n95, .i n96, .i n97, .s s98, .l l99, .l l100, .l l101])) m (vI w 0) (vB w 1) (vB w 2) (vB w 3) (vL w 4) (vI w 5) (vI w 6) (vI w 7) (vI w 8) (vI w 9) (vI w 10) (vS w 11) (vI w 12) (vI w 13) (vI w 14) (vI w 15) (vS w 16) (vI w 17) (vI w 18) (vI w 19) (vI w 20) (vS w 21) (vL w 22) (vL w 23) (vL w 24)
def ST78 : LT := [(0, sumT T78o0 (L78o0 KK))]
def b78o0 := bd c78 0
def F78o0 (m : Nat) : List (TSt × (List Vr → KT → Rs)) := [(T78o0, L78o0 m), (T78o10000000, L78o10000000 m)]
theorem o78o0 : SumOk C78 KK (sumT T78o0 (L78o0 KK)) (.loop b78o0) := loop_okF (o := 0) F78o0 (sums_of (t := ST78) ⟨fun _ _ h => absurd h (by decide), trivial⟩) ⟨fun _ _ => rfl, fun _ _ => rfl, trivial⟩ (fun m => ⟨fun w K => by kernel_rfl, fun w K => by kernel_rfl, trivial⟩) rfl
theorem r78 : Rp (v78 (ta78 tu52 tu53 tu73 tu74 tu79 tu80)) C78 ST78 Try.f78 (sig 78) c78 A78 := fun w => by kernel_rfl
theorem ok78 : OkS sig (Gd G dep (dep 78)) 78 th78 := okM (v := v78) r78 Try.func78 rfl ⟨sum_in (c' := .loop b78o0) (by kernel_rfl) (o78o0), trivial⟩ te78 ue78
def C84 := mkC 84
def c84 := gc Try.f84
def ST84 : LT := []
theorem r84 : Rp (v84 (ta84 tu83)) C84 ST84 Try.f84 (sig 84) c84 A84 := fun w => by kernel_rfl
theorem ok84 : OkS sig (Gd G dep (dep 84)) 84 th84 := okM (v := v84) r84 Try.func84 rfl trivial te84 ue84
def C51 := mkC 51
def c51 := gc Try.f51
def T51o1 : TSt := ⟨[ag1, .ptr 64 0, dB, dI, dI, .undef, dB, .any, .any], [(64, bx14)]⟩
def X51o1e1 : TSt := ⟨[ag1, .ptr 64 0, dB, dI, dI, .ptr 320 0, dB, dB, dB], [(64, bx14), (320, .box [dI, dS])]⟩
def X51o1e2 : TSt := ⟨[ag1, .ptr 64 0, dB, dI, dI, .undef, dB, dB, .any], [(64, bx14)]⟩
def L51o1 (m : Nat) (w : List Vr) (K : KT) : Rs := la51o1 tu83 tu84 (vI w 0) (vI w 1) (vI w 2) (vI w 3) (vS w 4) (vL w 5) (vB w 6) (vB w 9) (vI w 12) (vI w 13) (vI w 14) (vI w 15) (vS w 16) (vL w 17) (fun n59 n60 b61 b62 n63 s64 => K .ret (fillS X51o1e1 [jI w 0, jI w 1, jI w 2, jI w 3, jS w 4, jL w 5, .b (false), .i n59, .i n60, jB w 9, .b b61, .b b62, jI w 12, jI w 13, jI w 14, jI w 15, jS w 16, jL w 17, .i n63, .s s64])) (fun n65 n66 b67 v68 => K (.exit 0) (fillS X51o1e2 [jI w 0, jI w 1, jI w 2, jI w 3, jS w 4, jL w 5, jB w 6, .i n65, .i n66, jB w 9, .b b67, .v v68, jI w 12, jI w 13, jI w 14, jI w 15, jS w 16, jL w 17])) m (vI w 7) (vI w 8) (vV w 10) (vV w 11)
def ST51 : LT := [(1, sumT T51o1 (L51o1 KK))]
def b51o1 := bd c51 1
theorem q51o1 : Qp L51o1 C51 ST51 b51o1 2 T51o1 := fun m w K => by kernel_rfl
theorem o51o1 : SumOk C51 KK (sumT T51o1 (L51o1 KK)) (.loop b51o1) := loop_ok T51o1 L51o1 (sums_of (t := ST51) ⟨fun _ _ h => absurd h (by decide), trivial⟩) (fun _ _ => rfl) q51o1
theorem r51 : Rp (v51 (ta51 tu83 tu84)) C51 ST51 Try.f51 (sig 51) c51 A51 := fun w => by kernel_rfl
theorem ok51 : OkS sig (Gd G dep (dep 51)) 51 th51 := okM (v := v51) r51 Try.func51 rfl ⟨sum_in (c' := .loop b51o1) (by kernel_rfl) (o51o1), trivial⟩ te51 ue51
def C63 := mkC 63
def c63 := gc Try.f63
def T63o0 : TSt := ⟨[ag0, dI, .ptr 128 0, .ptr 256 0, dB, .ptr 384 0, dI, .undef, .any, .any, .any], [(128, bx13), (256, bx2), (384, .box [dI, dI, dI, dI, dS, .own 24582]), (24582, .row 90 2)]⟩
def X63o0e1 : TSt := ⟨[ag0, dI, .ptr 128 0, .ptr 256 0, dB, .ptr 384 0, dI, .ptr 512 0, dB, dB, dB], [(128, bx13), (256, .box [dI, dI, dI, dI, dS, .undef]), (384, .box [dI, dI, dI, dI, dS, .undef]), (512, bx9), (32774, .row 90 2)]⟩
def X63o0e2 : TSt := ⟨[ag0, dI, .ptr 128 0, .ptr 256 0, dB, .ptr 384 0, dI, .undef, .any, dB, .any], [(128, bx13), (256, bx2), (384, .box [dI, dI, dI, dI, dS, .own 24582]), (24582, .row 90 2)]⟩
def L63o0 (m : Nat) (w : List Vr) (K : KT) : Rs := la63o0 tu52 tu53 (vI w 0) (vI w 1) (vI w 2) (vI w 3) (vS w 4) (vL w 5) (vL w 6) (vI w 7) (vB w 8) (vI w 13) (vI w 14) (vI w 15) (vI w 16) (vS w 17) (vL w 18) (vL w 19) (vI w 20) (vI w 21) (vI w 22) (vI w 23) (vS w 24) (fun n99 b100 b101 b102 n103 n104 n105 n106 s107 n108 n109 n110 n111 s112 l113 => K .ret (fillS X63o0e1 [jI w 0, jI w 1, jI w 2, jI w 3, jS w 4, jL w 5, jL w 6, jI w 7, .b (false), .i n99, .b b100, .b b101, .b b102, jI w 13, jI w 14, jI w 15, jI w 16, jS w 17, jL w 18, jL w 19, .i n103, .i n104, .i n105, .i n106, .s s107, .i n103, .i n104, .i n105, .i n106, .s s107, .i n108, .i n109, .i n110, .i n111, .s s112, .l l113])) (fun n114 v115 b116 v117 n118 n119 n120 n121 s122 l123 => K (.exit 0) (fillS X63o0e2 [jI w 0, jI w 1, jI w 2, jI w 3, jS w 4, jL w 5, jL w 6, jI w 7, jB w 8, .i n114, .v v115, .b b116, .v v117, jI w 13, jI w 14, jI w 15, jI w 16, jS w 17, jL w 18, jL w 19, jI w 20, jI w 21, jI w 22, jI w 23, jS w 24, .i n118, .i n119, .i n120, .i n121, .s s122, .l l123])) m (vI w 9) (vV w 10) (vV w 11) (vV w 12) (vI w 25) (vI w 26) (vI w 27) (vI w 28) (vS w 29) (vL w 30)
def ST63 : LT := [(0, sumT T63o0 (L63o0 KK))]
def b63o0 := bd c63 0
theorem q63o0 : Qp L63o0 C63 ST63 b63o0 1 T63o0 := fun m w K => by kernel_rfl
theorem o63o0 : SumOk C63 KK (sumT T63o0 (L63o0 KK)) (.loop b63o0) := loop_ok T63o0 L63o0 (sums_of (t := ST63) ⟨fun _ _ h => absurd h (by decide), trivial⟩) (fun _ _ => rfl) q63o0
theorem r63 : Rp (v63 (ta63 tu52 tu53)) C63 ST63 Try.f63 (sig 63) c63 A63 := fun w => by kernel_rfl
theorem ok63 : OkS sig (Gd G dep (dep 63)) 63 th63 := okM (v := v63) r63 Try.func63 rfl ⟨sum_in (c' := .loop b63o0) (by kernel_rfl) (o63o0), trivial⟩ te63 ue63
def C22 := mkC 22
def c22 := gc Try.f22
def ST22 : LT := []
theorem r22 : Rp (v22 (ta22 tu51 tu63)) C22 ST22 Try.f22 (sig 22) c22 A22 := fun w => by kernel_rfl
theorem ok22 : OkS sig (Gd G dep (dep 22)) 22 th22 := okM (v := v22) r22 Try.func22 rfl trivial te22 ue22
def C31 := mkC 31
def c31 := gc Try.f31
def ST31 : LT := []
theorem r31 : Rp (v31 (ta31 tu22 tu63)) C31 ST31 Try.f31 (sig 31) c31 A31 := fun w => by kernel_rfl
theorem ok31 : OkS sig (Gd G dep (dep 31)) 31 th31 := okM (v := v31) r31 Try.func31 rfl trivial te31 ue31
def C47 := mkC 47
def c47 := gc Try.f47
def T47o3 : TSt := ⟨[dL, .ptr 128 0, .nils, dI, .ptr 896 0, .ptr 384 0, .ptr 448 0, .own 2880, dI, .undef, dI, dI, dB, dB, .any], [bn1, (384, bx6), (448, bx7), (896, .box [dL, dI, dI]), (1216, .row 38 5), (2880, .row 38 5), (24582, .row 90 2), (24583, .row 38 5), (28678, .row 90 2)]⟩
def X47o3e1 : TSt := ⟨[dL, .ptr 128 0, .nils, dI, .ptr 896 0, .ptr 384 0, .ptr 448 0, .own 2880, dI, .undef, dI, dI, dB, dB, dB], [bn1, (384, bx6), (448, bx7), (896, .box [dL, dI, dI]), (1216, .row 38 5), (2880, .row 38 5), (24582, .row 90 2), (24583, .row 38 5), (28678, .row 90 2)]⟩
def L47o3 (m : Nat) (w : List Vr) (K : KT) : Rs := la47o3 tu31 tu52 tu53 tu72 tu74 tu78 tu79 tu80 tu81 (vL w 0) (vI w 1) (vI w 2) (vI w 3) (vB w 5) (vB w 6) (vI w 8) (vI w 9) (vI w 10) (vI w 11) (vS w 12) (vI w 13) (vI w 14) (vI w 15) (vI w 16) (vS w 17) (vI w 18) (vI w 19) (vI w 20) (vI w 21) (vS w 22) (vL w 23) (vI w 24) (vI w 25) (vL w 26) (vL w 28) (vL w 29) (vL w 30) (fun n193 b194 l195 => K (.exit 2) (fillS X47o3e1 [jL w 0, jI w 1, jI w 2, jI w 3, .i n193, jB w 5, jB w 6, .b b194, jI w 8, jI w 9, jI w 10, jI w 11, jS w 12, jI w 13, jI w 14, jI w 15, jI w 16, jS w 17, jI w 18, jI w 19, jI w 20, jI w 21, jS w 22, jL w 23, jI w 24, jI w 25, jL w 26, .l l195, jL w 28, jL w 29, jL w 30])) m (vI w 4) (vV w 7) (vL w 27)
def T47o0 : TSt := ⟨[dL, .ptr 128 0, .nils, dI, .ptr 896 0, .ptr 384 0, .ptr 448 0, .own 1216, dI, .undef, .undef, .undef, .any, .undef, .undef], [bn1, (384, bx6), (448, bx7), (896, .box [dL, dI, dI]), (1216, .row 38 5), (24582, .row 90 2), (24583, .row 38 5), (28678, .row 90 2)]⟩
def X47o0e1 : TSt := ⟨[dL, .ptr 128 0, .nils, dI, .ptr 896 0, .ptr 384 0, .ptr 448 0, .own 1216, dI, .undef, .undef, .undef, dB, .undef, .undef], [bn1, (384, bx6), (448, bx7), (896, .box [dL, dI, dI]), (1216, .row 38 5), (24582, .row 90 2), (24583, .row 38 5), (28678, .row 90 2)]⟩
def L47o0 (m : Nat) (w : List Vr) (K : KT) : Rs := la47o0 tu31 tu52 tu53 tu72 tu74 tu78 tu79 tu80 tu81 (vL w 0) (vI w 1) (vI w 4) (vI w 5) (vI w 6) (vI w 7) (vS w 8) (vI w 9) (vI w 10) (vI w 11) (vI w 12) (vS w 13) (vL w 19) (vL w 23) (vL w 24) (fun n79 b80 n81 n82 n83 n84 s85 n86 n87 l88 l89 => K (.exit 0) (fillS X47o0e1 [jL w 0, jI w 1, .i n79, .b b80, jI w 4, jI w 5, jI w 6, jI w 7, jS w 8, jI w 9, jI w 10, jI w 11, jI w 12, jS w 13, .i n81, .i n82, .i n83, .i n84, .s s85, jL w 19, .i n86, .i n87, .l l88, jL w 23, jL w 24, .l l89])) m (vI w 2) (vV w 3) (vI w 14) (vI w 15) (vI w 16) (vI w 17) (vS w 18) (vI w 20) (vI w 21) (vL w 22) (vL w 25)
def ST47 : LT := [(3, sumT T47o3 (L47o3 KK)), (0, sumT T47o0 (L47o0 KK))]
def b47o3 := bd c47 3
def b47o0 := bd c47 0
theorem q47o3 : Qp L47o3 C47 ST47 b47o3 4 T47o3 := fun m w K => by kernel_rfl
theorem o47o3 : SumOk C47 KK (sumT T47o3 (L47o3 KK)) (.loop b47o3) := loop_ok T47o3 L47o3 (sums_of (t := ST47) ⟨fun _ _ h => absurd h (by decide), fun _ _ h => absurd h (by decide), trivial⟩) (fun _ _ => rfl) q47o3
theorem q47o0 : Qp L47o0 C47 ST47 b47o0 1 T47o0 := fun m w K => by kernel_rfl
theorem o47o0 : SumOk C47 KK (sumT T47o0 (L47o0 KK)) (.loop b47o0) := loop_ok T47o0 L47o0 (sums_of (t := ST47) ⟨sum_out (by kernel_rfl), fun _ _ h => absurd h (by decide), trivial⟩) (fun _ _ => rfl) q47o0
theorem r47 : Rp (v47 (ta47 tu31 tu52 tu53 tu72 tu74 tu78 tu79 tu80 tu81)) C47 ST47 Try.f47 (sig 47) c47 A47 := fun w => by kernel_rfl
theorem ok47 : OkS sig (Gd G dep (dep 47)) 47 th47 := okM (v := v47) r47 Try.func47 rfl ⟨sum_in (c' := .loop b47o3) (by kernel_rfl) (o47o3), sum_in (c' := .loop b47o0) (by kernel_rfl) (o47o0), trivial⟩ te47 ue47
def C76 := mkC 76
def c76 := gc Try.f76
def ST76 : LT := []
theorem r76 : Rp (v76 t76) C76 ST76 Try.f76 (sig 76) c76 A76 := fun w => by kernel_rfl
theorem ok76 : OkS sig (Gd G dep (dep 76)) 76 th76 := okM (v := v76) r76 Try.func76 rfl trivial te76 ue76
def C56 := mkC 56
def c56 := gc Try.f56
def T56o2 : TSt := ⟨[ag1, .ptr 64 0, dB, dI, .undef, dB, dB, dL, dI, dI, .any, .any], [(64, bx14)]⟩
def X56o2e1 : TSt := ⟨[ag1, .ptr 64 0, dB, dI, .ptr 320 0, dB, dB, dL, dI, dI, dB, dB], [(64, bx14), (320, .box [dI, dS])]⟩
def X56o2e2 : TSt := ⟨[ag1, .ptr 64 0, dB, dI, .undef, dB, dB, dL, dI, dI, dB, .any], [(64, bx14)]⟩
def L56o2 (m : Nat) (w : List Vr) (K : KT) : Rs := la56o2 tu76 (vI w 0) (vI w 1) (vI w 2) (vI w 3) (vS w 4) (vL w 5) (vB w 6) (vB w 8) (vB w 9) (vL w 10) (vI w 11) (vI w 15) (vI w 16) (vI w 17) (vI w 18) (vS w 19) (vL w 20) (fun n68 n69 b70 b71 n72 s73 => K .ret (fillS X56o2e1 [jI w 0, jI w 1, jI w 2, jI w 3, jS w 4, jL w 5, .b (false), .i n68, jB w 8, jB w 9, jL w 10, jI w 11, .i n69, .b b70, .b b71, jI w 15, jI w 16, jI w 17, jI w 18, jS w 19, jL w 20, .i n72, .s s73])) (fun n74 n75 b76 v77 => K (.exit 0) (fillS X56o2e2 [jI w 0, jI w 1, jI w 2, jI w 3, jS w 4, jL w 5, jB w 6, .i n74, jB w 8, jB w 9, jL w 10, jI w 11, .i n75, .b b76, .v v77, jI w 15, jI w 16, jI w 17, jI w 18, jS w 19, jL w 20])) m (vI w 7) (vI w 12) (vV w 13) (vV w 14)
def ST56 : LT := [(2, sumT T56o2 (L56o2 KK))]
def b56o2 := bd c56 2
theorem q56o2 : Qp L56o2 C56 ST56 b56o2 3 T56o2 := fun m w K => by kernel_rfl
theorem o56o2 : SumOk C56 KK (sumT T56o2 (L56o2 KK)) (.loop b56o2) := loop_ok T56o2 L56o2 (sums_of (t := ST56) ⟨fun _ _ h => absurd h (by decide), trivial⟩) (fun _ _ => rfl) q56o2
theorem r56 : Rp (v56 (ta56 tu76)) C56 ST56 Try.f56 (sig 56) c56 A56 := fun w => by kernel_rfl
theorem ok56 : OkS sig (Gd G dep (dep 56)) 56 th56 := okM (v := v56) r56 Try.func56 rfl ⟨sum_in (c' := .loop b56o2) (by kernel_rfl) (o56o2), trivial⟩ te56 ue56
def C57 := mkC 57
def c57 := gc Try.f57
def ST57 : LT := []
theorem r57 : Rp (v57 t57) C57 ST57 Try.f57 (sig 57) c57 A57 := fun w => by kernel_rfl
theorem ok57 : OkS sig (Gd G dep (dep 57)) 57 th57 := okM (v := v57) r57 Try.func57 rfl trivial te57 ue57
def C45 := mkC 45
def c45 := gc Try.f45
def ST45 : LT := []
theorem r45 : Rp (v45 (ta45 tu76)) C45 ST45 Try.f45 (sig 45) c45 A45 := fun w => by kernel_rfl
theorem ok45 : OkS sig (Gd G dep (dep 45)) 45 th45 := okM (v := v45) r45 Try.func45 rfl trivial te45 ue45
def C95 := mkC 95
def c95 := gc Try.f95
def ST95 : LT := []
theorem r95 : Rp (v95 t95) C95 ST95 Try.f95 (sig 95) c95 A95 := fun w => by kernel_rfl
theorem ok95 : OkS sig (Gd G dep (dep 95)) 95 th95 := okM (v := v95) r95 Try.func95 rfl trivial te95 ue95
def C88 := mkC 88
def c88 := gc Try.f88
def ST88 : LT := []
theorem r88 : Rp (v88 (ta88 tu76 tu95)) C88 ST88 Try.f88 (sig 88) c88 A88 := fun w => by kernel_rfl
theorem ok88 : OkS sig (Gd G dep (dep 88)) 88 th88 := okM (v := v88) r88 Try.func88 rfl trivial te88 ue88
def C58 := mkC 58
def c58 := gc Try.f58
def ST58 : LT := []
theorem r58 : Rp (v58 (ta58 tu45 tu88)) C58 ST58 Try.f58 (sig 58) c58 A58 := fun w => by kernel_rfl
theorem ok58 : OkS sig (Gd G dep (dep 58)) 58 th58 := okM (v := v58) r58 Try.func58 rfl trivial te58 ue58
def C64 := mkC 64
def c64 := gc Try.f64
def T64o1 : TSt := ⟨[.pv [.i .i64, .i .i64, .i .i64, .i .i64, .s, .l, .l] 0, .ptr 128 0, dB, .ptr 256 0, .undef, dB, dL, dI, dI, .any, .any], [(128, bx2), (256, bx5), (16390, .row 90 2)]⟩
def X64o1e1 : TSt := ⟨[.pv [.i .i64, .i .i64, .i .i64, .i .i64, .s, .l, .l] 0, .ptr 128 0, dB, .ptr 256 0, .ptr 384 0, dB, dL, dI, dI, dB, dB], [(128, bx2), (256, bx5), (384, bx15), (16390, .row 90 2)]⟩
def X64o1e2 : TSt := ⟨[.pv [.i .i64, .i .i64, .i .i64, .i .i64, .s, .l, .l] 0, .ptr 128 0, dB, .ptr 256 0, .undef, dB, dL, dI, dI, dB, .any], [(128, bx2), (256, bx5), (16390, .row 90 2)]⟩
def L64o1 (m : Nat) (w : List Vr) (K : KT) : Rs := la64o1 tu56 tu57 tu58 (vI w 0) (vI w 1) (vI w 2) (vI w 3) (vS w 4) (vL w 5) (vL w 6) (vB w 7) (vB w 8) (vL w 9) (vI w 10) (vI w 14) (vI w 15) (vI w 16) (vI w 17) (vS w 18) (fun n81 b82 b83 s84 n85 n86 n87 n88 s89 n90 n91 n92 n93 s94 l95 => K .ret (fillS X64o1e1 [jI w 0, jI w 1, jI w 2, jI w 3, jS w 4, jL w 5, jL w 6, .b (false), jB w 8, jL w 9, jI w 10, .i n81, .b b82, .b b83, .i ((0 : Int)), .i ((0 : Int)), .i ((0 : Int)), .i ((0 : Int)), .s s84, .i n85, .i n86, .i n87, .i n88, .s s89, .i n90, .i n91, .i n92, .i n93, .s s94, .l l95])) (fun n96 b97 v98 n99 n100 n101 n102 s103 l104 => K (.exit 0) (fillS X64o1e2 [jI w 0, jI w 1, jI w 2, jI w 3, jS w 4, jL w 5, jL w 6, jB w 7, jB w 8, jL w 9, jI w 10, .i n96, .b b97, .v v98, jI w 14, jI w 15, jI w 16, jI w 17, jS w 18, .i n99, .i n100, .i n101, .i n102, .s s103, .l l104])) m (vI w 11) (vV w 12) (vV w 13) (vI w 19) (vI w 20) (vI w 21) (vI w 22) (vS w 23) (vL w 24)
def ST64 : LT := [(1, sumT T64o1 (L64o1 KK))]
def b64o1 := bd c64 1
theorem q64o1 : Qp L64o1 C64 ST64 b64o1 2 T64o1 := fun m w K => by kernel_rfl
theorem o64o1 : SumOk C64 KK (sumT T64o1 (L64o1 KK)) (.loop b64o1) := loop_ok T64o1 L64o1 (sums_of (t := ST64) ⟨fun _ _ h => absurd h (by decide), trivial⟩) (fun _ _ => rfl) q64o1
theorem r64 : Rp (v64 (ta64 tu56 tu57 tu58)) C64 ST64 Try.f64 (sig 64) c64 A64 := fun w => by kernel_rfl
theorem ok64 : OkS sig (Gd G dep (dep 64)) 64 th64 := okM (v := v64) r64 Try.func64 rfl ⟨sum_in (c' := .loop b64o1) (by kernel_rfl) (o64o1), trivial⟩ te64 ue64
def C71 := mkC 71
def c71 := gc Try.f71
def ST71 : LT := []
theorem r71 : Rp (v71 (ta71 tu57)) C71 ST71 Try.f71 (sig 71) c71 A71 := fun w => by kernel_rfl
theorem ok71 : OkS sig (Gd G dep (dep 71)) 71 th71 := okM (v := v71) r71 Try.func71 rfl trivial te71 ue71
def C42 := mkC 42
def c42 := gc Try.f42
def T42o1 : TSt := ⟨[ag0, dL, dI, .ptr 192 0, .ptr 384 0, dI, .ptr 512 0, dB, .ptr 640 0, dI, .undef, dB, dL, dI, dI, .any, .any], [(192, bx13), (384, bx1), (512, bx9), (640, bx11), (32774, .row 90 2), (40966, .row 90 2), (40967, .row 38 5)]⟩
def X42o1e1 : TSt := ⟨[ag0, dL, dI, .ptr 192 0, .ptr 384 0, dI, .ptr 512 0, dB, .ptr 640 0, dI, .undef, dB, dL, dI, dI, dB, dB], [(192, bx13), (384, bx1), (512, bx9), (640, bx11), (32774, .row 90 2), (40966, .row 90 2), (40967, .row 38 5)]⟩
def X42o1e2 : TSt := ⟨[ag0, dL, dI, .ptr 192 0, .ptr 384 0, dI, .ptr 512 0, dB, .ptr 640 0, dI, .undef, dB, dL, dI, dI, dB, .any], [(192, bx13), (384, bx1), (512, bx9), (640, bx11), (32774, .row 90 2), (40966, .row 90 2), (40967, .row 38 5)]⟩
def L42o1 (m : Nat) (w : List Vr) (K : KT) : Rs := la42o1 tu58 tu64 tu71 (vI w 0) (vI w 1) (vI w 2) (vI w 3) (vS w 4) (vL w 5) (vL w 6) (vL w 7) (vI w 8) (vI w 9) (vB w 10) (vB w 12) (vL w 13) (vI w 14) (vI w 18) (vI w 19) (vI w 20) (vI w 21) (vS w 22) (vL w 23) (vL w 24) (vI w 25) (vI w 26) (vI w 27) (vI w 28) (vS w 29) (vI w 35) (vI w 36) (vI w 37) (vI w 38) (vS w 39) (vL w 41) (fun n137 n138 b139 b140 n141 n142 n143 n144 s145 l146 l147 => K (.exit 0) (fillS X42o1e1 [jI w 0, jI w 1, jI w 2, jI w 3, jS w 4, jL w 5, jL w 6, jL w 7, jI w 8, jI w 9, jB w 10, .i n137, jB w 12, jL w 13, jI w 14, .i n138, .b b139, .b b140, jI w 18, jI w 19, jI w 20, jI w 21, jS w 22, jL w 23, jL w 24, jI w 25, jI w 26, jI w 27, jI w 28, jS w 29, .i n141, .i n142, .i n143, .i n144, .s s145, jI w 35, jI w 36, jI w 37, jI w 38, jS w 39, .l l146, jL w 41, .l l147])) (fun n148 n149 b150 v151 n152 n153 n154 n155 s156 l157 l158 => K (.exit 0) (fillS X42o1e2 [jI w 0, jI w 1, jI w 2, jI w 3, jS w 4, jL w 5, jL w 6, jL w 7, jI w 8, jI w 9, jB w 10, .i n148, jB w 12, jL w 13, jI w 14, .i n149, .b b150, .v v151, jI w 18, jI w 19, jI w 20, jI w 21, jS w 22, jL w 23, jL w 24, jI w 25, jI w 26, jI w 27, jI w 28, jS w 29, .i n152, .i n153, .i n154, .i n155, .s s156, jI w 35, jI w 36, jI w 37, jI w 38, jS w 39, .l l157, jL w 41, .l l158])) m (vI w 11) (vI w 15) (vV w 16) (vV w 17) (vI w 30) (vI w 31) (vI w 32) (vI w 33) (vS w 34) (vL w 40) (vL w 42)
def ST42 : LT := [(1, sumT T42o1 (L42o1 KK))]
def b42o1 := bd c42 1
theorem q42o1 : Qp L42o1 C42 ST42 b42o1 2 T42o1 := fun m w K => by kernel_rfl
theorem o42o1 : SumOk C42 KK (sumT T42o1 (L42o1 KK)) (.loop b42o1) := loop_ok T42o1 L42o1 (sums_of (t := ST42) ⟨fun _ _ h => absurd h (by decide), trivial⟩) (fun _ _ => rfl) q42o1
theorem r42 : Rp (v42 (ta42 tu58 tu64 tu71)) C42 ST42 Try.f42 (sig 42) c42 A42 := fun w => by kernel_rfl
theorem ok42 : OkS sig (Gd G dep (dep 42)) 42 th42 := okM (v := v42) r42 Try.func42 rfl ⟨sum_in (c' := .loop b42o1) (by kernel_rfl) (o42o1), trivial⟩ te42 ue42
def C35 := mkC 35
def c35 := gc Try.f35
def ST35 : LT := []
theorem r35 : Rp (v35 (ta35 tu64)) C35 ST35 Try.f35 (sig 35) c35 A35 := fun w => by kernel_rfl
theorem ok35 : OkS sig (Gd G dep (dep 35)) 35 th35 := okM (v := v35) r35 Try.func35 rfl trivial te35 ue35
def C48 := mkC 48
def c48 := gc Try.f48
def ST48 : LT := []
theorem r48 : Rp (v48 t48) C48 ST48 Try.f48 (sig 48) c48 A48 := fun w => by kernel_rfl
theorem ok48 : OkS sig (Gd G dep (dep 48)) 48 th48 := okM (v := v48) r48 Try.func48 rfl trivial te48 ue48
def C14 := mkC 14
def c14 := gc Try.f14
def ST14 : LT := []
theorem r14 : Rp (v14 (ta14 tu51 tu52 tu53)) C14 ST14 Try.f14 (sig 14) c14 A14 := fun w => by kernel_rfl
theorem ok14 : OkS sig (Gd G dep (dep 14)) 14 th14 := okM (v := v14) r14 Try.func14 rfl trivial te14 ue14
def C24 := mkC 24
def c24 := gc Try.f24
def ST24 : LT := []
theorem r24 : Rp (v24 (ta24 tu64)) C24 ST24 Try.f24 (sig 24) c24 A24 := fun w => by kernel_rfl
theorem ok24 : OkS sig (Gd G dep (dep 24)) 24 th24 := okM (v := v24) r24 Try.func24 rfl trivial te24 ue24
def C32 := mkC 32
def c32 := gc Try.f32
def ST32 : LT := []
theorem r32 : Rp (v32 (ta32 tu64)) C32 ST32 Try.f32 (sig 32) c32 A32 := fun w => by kernel_rfl
theorem ok32 : OkS sig (Gd G dep (dep 32)) 32 th32 := okM (v := v32) r32 Try.func32 rfl trivial te32 ue32
def C38 := mkC 38
def c38 := gc Try.f38
def ST38 : LT := []
theorem r38 : Rp (v38 (ta38 tu24 tu32)) C38 ST38 Try.f38 (sig 38) c38 A38 := fun w => by kernel_rfl
theorem ok38 : OkS sig (Gd G dep (dep 38)) 38 th38 := okM (v := v38) r38 Try.func38 rfl trivial te38 ue38
def C77 := mkC 77
def c77 := gc Try.f77
def T77o1 : TSt := ⟨[dL, dL, dB, dI, dB, .any, .any], []⟩
def X77o1e1 : TSt := ⟨[dL, dL, dB, dI, dB, dB, dB], []⟩
def X77o1e2 : TSt := ⟨[dL, dL, dB, dI, dB, dB, .any], []⟩
def L77o1 (m : Nat) (w : List Vr) (K : KT) : Rs := l77o1 (vL w 0) (vL w 1) (vB w 2) (vB w 4) (fun n22 b23 b24 => K .ret (fillS X77o1e1 [jL w 0, jL w 1, .b (false), .i n22, jB w 4, .b b23, .b b24])) (fun n25 b26 v27 => K (.exit 0) (fillS X77o1e2 [jL w 0, jL w 1, jB w 2, .i n25, jB w 4, .b b26, .v v27])) m (vI w 3) (vV w 5) (vV w 6)
def ST77 : LT := [(1, sumT T77o1 (L77o1 KK))]
def b77o1 := bd c77 1
theorem q77o1 : Qp L77o1 C77 ST77 b77o1 2 T77o1 := fun m w K => by kernel_rfl
theorem o77o1 : SumOk C77 KK (sumT T77o1 (L77o1 KK)) (.loop b77o1) := loop_ok T77o1 L77o1 (sums_of (t := ST77) ⟨fun _ _ h => absurd h (by decide), trivial⟩) (fun _ _ => rfl) q77o1
theorem r77 : Rp (v77 t77) C77 ST77 Try.f77 (sig 77) c77 A77 := fun w => by kernel_rfl
theorem ok77 : OkS sig (Gd G dep (dep 77)) 77 th77 := okM (v := v77) r77 Try.func77 rfl ⟨sum_in (c' := .loop b77o1) (by kernel_rfl) (o77o1), trivial⟩ te77 ue77
def C46 := mkC 46
def c46 := gc Try.f46
def ST46 : LT := []
theorem r46 : Rp (v46 (ta46 tu77)) C46 ST46 Try.f46 (sig 46) c46 A46 := fun w => by kernel_rfl
theorem ok46 : OkS sig (Gd G dep (dep 46)) 46 th46 := okM (v := v46) r46 Try.func46 rfl trivial te46 ue46
def C11 := mkC 11
def c11 := gc Try.f11
def T11o3 : TSt := ⟨[dL, dB, .ptr 192 0, .own 1351, dI, .ptr 384 0, dI, .ptr 512 0, .ptr 576 0, dI, dI, .ptr 768 0, dI, .undef, .any, .undef, dB, dB, dB, .any, .any], [bn3, (384, bx6), (512, bx8), (576, bx10), (768, bx12), (1351, .row 38 5), (12294, .row 90 2), (12295, .row 38 5), (24582, .row 90 2), (24583, .row 38 5), (32774, .row 90 2), (32775, .row 38 5), (36870, .row 90 2), (36871, .row 38 5), (49158, .row 90 2)]⟩
def X11o3e1 : TSt := ⟨[dL, dB, .ptr 192 0, .own 1351, dI, .ptr 384 0, dI, .ptr 512 0, .ptr 576 0, dI, dI, .ptr 768 0, dI, .ptr 896 0, dB, .undef, dB, dB, dB, dB, dB], [bn3, (384, bx6), (512, bx8), (576, bx10), (768, bx12), (896, .box [dI, dI, dI, dI, dS, .own 57350]), (1351, .row 38 5), (12294, .row 90 2), (12295, .row 38 5), (24582, .row 90 2), (24583, .row 38 5), (32774, .row 90 2), (32775, .row 38 5), (36870, .row 90 2), (36871, .row 38 5), (49158, .row 90 2), (57350, .row 90 2)]⟩
def X11o3e2 : TSt := ⟨[dL, dB, .ptr 192 0, .own 1351, dI, .ptr 384 0, dI, .ptr 512 0, .ptr 576 0, dI, dI, .ptr 768 0, dI, .undef, .any, .undef, dB, dB, dB, dB, .any], [bn3, (384, bx6), (512, bx8), (576, bx10), (768, bx12), (1351, .row 38 5), (12294, .row 90 2), (12295, .row 38 5), (24582, .row 90 2), (24583, .row 38 5), (32774, .row 90 2), (32775, .row 38 5), (36870, .row 90 2), (36871, .row 38 5), (49158, .row 90 2)]⟩
def L11o3 (m : Nat) (w : List Vr) (K : KT) : Rs := la11o3 tu14 tu22 tu31 tu32 tu35 tu38 tu42 tu43 tu46 tu47 tu48 (vL w 0) (vB w 1) (vI w 2) (vI w 3) (vI w 4) (vI w 5) (vB w 8) (vB w 9) (vB w 10) (vI w 13) (vI w 14) (vI w 15) (vI w 16) (vS w 17) (vI w 18) (vI w 19) (vI w 20) (vI w 21) (vS w 22) (vI w 23) (vI w 24) (vI w 25) (vI w 26) (vS w 27) (vI w 28) (vI w 29) (vI w 30) (vI w 31) (vS w 32) (vL w 38) (vL w 39) (vL w 40) (vL w 41) (vL w 42) (vL w 43) (vL w 44) (vL w 45) (vL w 46) (fun n143 b144 b145 b146 n147 n148 n149 n150 s151 n152 n153 n154 n155 s156 l157 l158 => K .ret (fillS X11o3e1 [jL w 0, .b (false), jI w 2, jI w 3, jI w 4, jI w 5, .i n143, .b b144, jB w 8, jB w 9, jB w 10, .b b145, .b b146, jI w 13, jI w 14, jI w 15, jI w 16, jS w 17, jI w 18, jI w 19, jI w 20, jI w 21, jS w 22, jI w 23, jI w 24, jI w 25, jI w 26, jS w 27, jI w 28, jI w 29, jI w 30, jI w 31, jS w 32, .i n147, .i n148, .i n149, .i n150, .s s151, .i n152, .i n153, .i n154, .i n155, .s s156, jL w 38, jL w 39, jL w 40, jL w 41, jL w 42, jL w 43, jL w 44, jL w 45, jL w 46, .l l157, .l l158])) (fun n159 v160 b161 v162 n163 n164 n165 n166 s167 l168 => K (.exit 0) (fillS X11o3e2 [jL w 0, jB w 1, jI w 2, jI w 3, jI w 4, jI w 5, .i n159, .v v160, jB w 8, jB w 9, jB w 10, .b b161, .v v162, jI w 13, jI w 14, jI w 15, jI w 16, jS w 17, jI w 18, jI w 19, jI w 20, jI w 21, jS w 22, jI w 23, jI w 24, jI w 25, jI w 26, jS w 27, jI w 28, jI w 29, jI w 30, jI w 31, jS w 32, .i n163, .i n164, .i n165, .i n166, .s s167, jL w 38, jL w 39, jL w 40, jL w 41, jL w 42, jL w 43, jL w 44, jL w 45, jL w 46, .l l168])) m (vI w 6) (vV w 7) (vV w 11) (vV w 12) (vI w 33) (vI w 34) (vI w 35) (vI w 36) (vS w 37) (vL w 47)
def ST11 : LT := [(3, sumT T11o3 (L11o3 KK))]
def b11o3 := bd c11 3
theorem q11o3 : Qp L11o3 C11 ST11 b11o3 4 T11o3 := fun m w K => by kernel_rfl
theorem o11o3 : SumOk C11 KK (sumT T11o3 (L11o3 KK)) (.loop b11o3) := loop_ok T11o3 L11o3 (sums_of (t := ST11) ⟨fun _ _ h => absurd h (by decide), trivial⟩) (fun _ _ => rfl) q11o3
theorem r11 : Rp (v11 (ta11 tu14 tu22 tu31 tu32 tu35 tu38 tu42 tu43 tu46 tu47 tu48)) C11 ST11 Try.f11 (sig 11) c11 A11 := fun w => by kernel_rfl
theorem ok11 : OkS sig (Gd G dep (dep 11)) 11 th11 := okM (v := v11) r11 Try.func11 rfl ⟨sum_in (c' := .loop b11o3) (by kernel_rfl) (o11o3), trivial⟩ te11 ue11
theorem fn_ok : ∀ f ∈ [43, 72, 93, 79, 74, 92, 96, 91, 81, 73, 80, 53, 83, 85, 94, 86, 65, 52, 78, 84, 51, 63, 22, 31, 47, 76, 56, 57, 45, 95, 88, 58, 64, 71, 42, 35, 48, 14, 24, 32, 38, 77, 46, 11], FnOk Try.prog sig f := fun f h => fnOk_of (List.all_eq_true.1 (show [43, 72, 93, 79, 74, 92, 96, 91, 81, 73, 80, 53, 83, 85, 94, 86, 65, 52, 78, 84, 51, 63, 22, 31, 47, 76, 56, 57, 45, 95, 88, 58, 64, 71, 42, 35, 48, 14, 24, 32, 38, 77, 46, 11].all (fnOkB Try.prog sig) = true by kernel_rfl) f h)
theorem ak {f : Nat} {th : List DV → Bool × List DV × List (List D)} (a : FnOk Try.prog sig f) (o : OkS sig (Gd G dep (dep f)) f th) : ∀ xs q, opt (th xs) = some q → FnOk Try.prog sig f ∧ evalBody Try.prog sig (Gd G dep (dep f)) KK f xs = some q := fun xs q h => ⟨a, o xs q h⟩
theorem all_ok : AllG (fun f xs q => FnOk Try.prog sig f ∧ evalBody Try.prog sig (Gd G dep (dep f)) KK f xs = some q) gT :=
  ⟨ak (fn_ok 43 (by simp)) ok43, ak (fn_ok 72 (by simp)) ok72, ak (fn_ok 93 (by simp)) ok93, ak (fn_ok 79 (by simp)) ok79, ak (fn_ok 74 (by simp)) ok74, ak (fn_ok 92 (by simp)) ok92, ak (fn_ok 96 (by simp)) ok96, ak (fn_ok 91 (by simp)) ok91, ak (fn_ok 81 (by simp)) ok81, ak (fn_ok 73 (by simp)) ok73, ak (fn_ok 80 (by simp)) ok80, ak (fn_ok 53 (by simp)) ok53, ak (fn_ok 83 (by simp)) ok83, ak (fn_ok 85 (by simp)) ok85, ak (fn_ok 94 (by simp)) ok94, ak (fn_ok 86 (by simp)) ok86, ak (fn_ok 65 (by simp)) ok65, ak (fn_ok 52 (by simp)) ok52, ak (fn_ok 78 (by simp)) ok78, ak (fn_ok 84 (by simp)) ok84, ak (fn_ok 51 (by simp)) ok51, ak (fn_ok 63 (by simp)) ok63, ak (fn_ok 22 (by simp)) ok22, ak (fn_ok 31 (by simp)) ok31, ak (fn_ok 47 (by simp)) ok47, ak (fn_ok 76 (by simp)) ok76, ak (fn_ok 56 (by simp)) ok56, ak (fn_ok 57 (by simp)) ok57, ak (fn_ok 45 (by simp)) ok45, ak (fn_ok 95 (by simp)) ok95, ak (fn_ok 88 (by simp)) ok88, ak (fn_ok 58 (by simp)) ok58, ak (fn_ok 64 (by simp)) ok64, ak (fn_ok 71 (by simp)) ok71, ak (fn_ok 42 (by simp)) ok42, ak (fn_ok 35 (by simp)) ok35, ak (fn_ok 48 (by simp)) ok48, ak (fn_ok 14 (by simp)) ok14, ak (fn_ok 24 (by simp)) ok24, ak (fn_ok 32 (by simp)) ok32, ak (fn_ok 38 (by simp)) ok38, ak (fn_ok 77 (by simp)) ok77, ak (fn_ok 46 (by simp)) ok46, ak (fn_ok 11 (by simp)) ok11, trivial⟩
theorem G_ok (f : Nat) : SpecOk Try.prog (sig f) (fun xs => opt (G f xs)) f := G_spec (by kernel_rfl) (allG_of all_ok) f
end
end Go.Den.L11
