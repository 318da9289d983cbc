/- The functions' table, and that each is what its twin says. Printed by tw.py. -/
import Derived.Test.YtklnogkdclhdhaaL5Tw
import Derived.Test.YtklnogkdclhdhaaProg
import Derived.KernelRfl
set_option linter.unusedVariables false
namespace Go.Den.L5
open Go Go.Proofs
noncomputable section
set_option maxRecDepth 100000
def U {α : Type} (a : α) : α := Classical.choose (⟨a, rfl⟩ : ∃ f, f = a)
theorem U_eq {α : Type} (a : α) : U a = a := Classical.choose_spec (⟨a, rfl⟩ : ∃ f, f = a)
abbrev dI : TV := .d (.i .i64)
abbrev dB : TV := .d .b
abbrev dS : TV := .d .s
abbrev dL : TV := .d .l
def bx0 : TB := .box [dI, dI, dI, dI, dS, .own 45062]
def bx1 : TB := .box [dI, dI, dI, dI, dS, .own 53254, .own 53255, dB]
def bx2 : TB := .box [dI, dI, dI, dI, dS, dL]
def ag0 : TV := .agg [dI, dI, dI, dI, dS, dL]
def bn0 : Nat × TB := (128, bx2)
def bn1 : Nat × TB := (192, bx2)
abbrev KT := Cont (List DV × List (List D))
def dr (a n : Nat) : List (Nat × Nat × List Nat) := (List.range n).map fun i => (a + i, 0, [])
abbrev LT := List (Nat × (St → KT → Rs))
def Qp (L : Nat → List Vr → KT → Rs) (C : Ctx) (S : LT) (b : Code) (n : Nat) (T : TSt) : Prop := ∀ m w K, L (m + 1) w K = denK C (lkS S) b n (fillS T w) (loopK T (L m) K)
abbrev jB (w : List Vr) (n : Nat) : Vr := .b (vB w n)
abbrev jI (w : List Vr) (n : Nat) : Vr := .i (vI w n)
abbrev jS (w : List Vr) (n : Nat) : Vr := .s (vS w n)
abbrev jL (w : List Vr) (n : Nat) : Vr := .l (vL w n)
abbrev jN (w : List Vr) (n : Nat) : Vr := .n (vN w n)
abbrev jV (w : List Vr) (n : Nat) : Vr := .v (vV w n)
def OkS (sig : Nat → Sig) (g : Nat → List DV → Bool × List DV × List (List D)) (f : Nat) (th : List DV → Bool × List DV × List (List D)) : Prop := ∀ xs q, opt (th xs) = some q → evalBody Try.prog sig g KK f xs = some q
def tu49 := U t49
theorem ue49 : tu49 = t49 := U_eq _
theorem te49 : t49 = t49 := rfl
def v49 (f : Y49) (w : List Vr) : Rs := f (vI w 0) (vI w 1) (vS w 2) (vI w 3)
def th49 := fun xs => gOf zr49 zo49 (argsT A49 (v49 tu49) xs)
def tu82 := U t82
theorem ue82 : tu82 = t82 := U_eq _
theorem te82 : t82 = t82 := rfl
def v82 (f : Y82) (w : List Vr) : Rs := f (vI w 0) (vS w 1) (vI w 2)
def th82 := fun xs => gOf zr82 zo82 (argsT A82 (v82 tu82) xs)
def tu50 := U t50
theorem ue50 : tu50 = t50 := U_eq _
theorem te50 : ta50 tu82 = t50 := by rw [ue82]; rfl
def v50 (f : Y50) (w : List Vr) : Rs := f (vL w 0) (vI w 1)
def th50 := fun xs => gOf zr50 zo50 (argsT A50 (v50 tu50) xs)
def tu12 := U t12
theorem ue12 : tu12 = t12 := U_eq _
theorem te12 : ta12 tu49 tu50 = t12 := by rw [ue49, ue50]; rfl
def v12 (f : Y12) (w : List Vr) : Rs := f (vI w 0) (vI w 1) (vI w 2) (vI w 3) (vS w 4) (vL w 5) (vI w 6)
def th12 := fun xs => gOf zr12 zo12 (argsT A12 (v12 tu12) xs)
def tu54 := U t54
theorem ue54 : tu54 = t54 := U_eq _
theorem te54 : t54 = t54 := rfl
def v54 (f : Y54) (w : List Vr) : Rs := f (vI w 0) (vI w 1) (vS w 2)
def th54 := fun xs => gOf zr54 zo54 (argsT A54 (v54 tu54) xs)
def tu87 := U t87
theorem ue87 : tu87 = t87 := U_eq _
theorem te87 : t87 = t87 := rfl
def v87 (f : Y87) (w : List Vr) : Rs := f (vI w 0) (vS w 1)
def th87 := fun xs => gOf zr87 zo87 (argsT A87 (v87 tu87) xs)
def tu55 := U t55
theorem ue55 : tu55 = t55 := U_eq _
theorem te55 : ta55 tu87 = t55 := by rw [ue87]; rfl
def v55 (f : Y55) (w : List Vr) : Rs := f (vL w 0)
def th55 := fun xs => gOf zr55 zo55 (argsT A55 (v55 tu55) xs)
def tu15 := U t15
theorem ue15 : tu15 = t15 := U_eq _
theorem te15 : ta15 tu54 tu55 = t15 := by rw [ue54, ue55]; rfl
def v15 (f : Y15) (w : List Vr) : Rs := f (vI w 0) (vI w 1) (vI w 2) (vI w 3) (vS w 4) (vL w 5)
def th15 := fun xs => gOf zr15 zo15 (argsT A15 (v15 tu15) xs)
def tu83 := U t83
theorem ue83 : tu83 = t83 := U_eq _
theorem te83 : t83 = t83 := rfl
def v83 (f : Y83) (w : List Vr) : Rs := f (vI w 0) (vI w 1) (vI w 2)
def th83 := fun xs => gOf zr83 zo83 (argsT A83 (v83 tu83) xs)
def tu84 := U t84
theorem ue84 : tu84 = t84 := U_eq _
theorem te84 : ta84 tu83 = t84 := by rw [ue83]; rfl
def v84 (f : Y84) (w : List Vr) : Rs := f (vI w 0) (vI w 1)
def th84 := fun xs => gOf zr84 zo84 (argsT A84 (v84 tu84) xs)
def tu51 := U t51
theorem ue51 : tu51 = t51 := U_eq _
theorem te51 : ta51 tu83 tu84 = t51 := by rw [ue83, ue84]; rfl
def v51 (f : Y51) (w : List Vr) : Rs := f (vI w 0) (vI w 1) (vI w 2) (vI w 3) (vS w 4) (vL w 5)
def th51 := fun xs => gOf zr51 zo51 (argsT A51 (v51 tu51) xs)
def tu65 := U t65
theorem ue65 : tu65 = t65 := U_eq _
theorem te65 : t65 = t65 := rfl
def v65 (f : Y65) (w : List Vr) : Rs := f (vI w 0) (vI w 1) (vI w 2) (vI w 3) (vS w 4) (vL w 5) (vI w 6) (vI w 7)
def th65 := fun xs => gOf zr65 zo65 (argsT A65 (v65 tu65) xs)
def tu53 := U t53
theorem ue53 : tu53 = t53 := U_eq _
theorem te53 : t53 = t53 := rfl
def v53 (f : Y53) (w : List Vr) : Rs := f (vI w 0) (vI w 1) (vI w 2) (vI w 3) (vS w 4) (vL w 5)
def th53 := fun xs => gOf zr53 zo53 (argsT A53 (v53 tu53) xs)
def tu85 := U t85
theorem ue85 : tu85 = t85 := U_eq _
theorem te85 : ta85 tu83 = t85 := by rw [ue83]; rfl
def v85 (f : Y85) (w : List Vr) : Rs := f (vI w 0) (vI w 1) (vI w 2) (vI w 3) (vS w 4)
def th85 := fun xs => gOf zr85 zo85 (argsT A85 (v85 tu85) xs)
def tu94 := U t94
theorem ue94 : tu94 = t94 := U_eq _
theorem te94 : t94 = t94 := rfl
def v94 (f : Y94) (w : List Vr) : Rs := f (vI w 0) (vI w 1) (vI w 2) (vI w 3) (vS w 4) (vL w 5)
def th94 := fun xs => gOf zr94 zo94 (argsT A94 (v94 tu94) xs)
def tu86 := U t86
theorem ue86 : tu86 = t86 := U_eq _
theorem te86 : ta86 tu94 = t86 := by rw [ue94]; rfl
def v86 (f : Y86) (w : List Vr) : Rs := f (vI w 0) (vI w 1) (vI w 2) (vI w 3) (vS w 4) (vL w 5) (vI w 6) (vI w 7) (vI w 8) (vI w 9) (vS w 10)
def th86 := fun xs => gOf zr86 zo86 (argsT A86 (v86 tu86) xs)
def tu52 := U t52
theorem ue52 : tu52 = t52 := U_eq _
theorem te52 : ta52 tu65 tu85 tu86 = t52 := by rw [ue65, ue85, ue86]; rfl
def v52 (f : Y52) (w : List Vr) : Rs := f (vI w 0) (vI w 1) (vI w 2) (vI w 3) (vS w 4) (vL w 5) (vI w 6) (vI w 7) (vI w 8) (vI w 9) (vS w 10)
def th52 := fun xs => gOf zr52 zo52 (argsT A52 (v52 tu52) xs)
def tu26 := U t26
theorem ue26 : tu26 = t26 := U_eq _
theorem te26 : ta26 tu51 tu52 tu53 tu65 = t26 := by rw [ue51, ue52, ue53, ue65]; rfl
def v26 (f : Y26) (w : List Vr) : Rs := f (vI w 0) (vI w 1) (vI w 2) (vI w 3) (vS w 4) (vL w 5) (vI w 6) (vI w 7) (vI w 8) (vI w 9) (vS w 10) (vL w 11)
def th26 := fun xs => gOf zr26 zo26 (argsT A26 (v26 tu26) xs)
def tu76 := U t76
theorem ue76 : tu76 = t76 := U_eq _
theorem te76 : t76 = t76 := rfl
def v76 (f : Y76) (w : List Vr) : Rs := f (vI w 0) (vI w 1) (vI w 2)
def th76 := fun xs => gOf zr76 zo76 (argsT A76 (v76 tu76) xs)
def tu56 := U t56
theorem ue56 : tu56 = t56 := U_eq _
theorem te56 : ta56 tu76 = t56 := by rw [ue76]; rfl
def v56 (f : Y56) (w : List Vr) : Rs := f (vI w 0) (vI w 1) (vI w 2) (vI w 3) (vS w 4) (vL w 5)
def th56 := fun xs => gOf zr56 zo56 (argsT A56 (v56 tu56) xs)
def tu57 := U t57
theorem ue57 : tu57 = t57 := U_eq _
theorem te57 : t57 = t57 := rfl
def v57 (f : Y57) (w : List Vr) : Rs := f (vI w 0) (vI w 1) (vI w 2) (vI w 3) (vS w 4) (vL w 5)
def th57 := fun xs => gOf zr57 zo57 (argsT A57 (v57 tu57) xs)
def tu45 := U t45
theorem ue45 : tu45 = t45 := U_eq _
theorem te45 : ta45 tu76 = t45 := by rw [ue76]; rfl
def v45 (f : Y45) (w : List Vr) : Rs := f (vI w 0) (vI w 1) (vI w 2) (vI w 3) (vS w 4)
def th45 := fun xs => gOf zr45 zo45 (argsT A45 (v45 tu45) xs)
def tu95 := U t95
theorem ue95 : tu95 = t95 := U_eq _
theorem te95 : t95 = t95 := rfl
def v95 (f : Y95) (w : List Vr) : Rs := f (vI w 0) (vI w 1) (vI w 2) (vI w 3) (vS w 4) (vL w 5)
def th95 := fun xs => gOf zr95 zo95 (argsT A95 (v95 tu95) xs)
def tu88 := U t88
theorem ue88 : tu88 = t88 := U_eq _
theorem te88 : ta88 tu76 tu95 = t88 := by rw [ue76, ue95]; rfl
def v88 (f : Y88) (w : List Vr) : Rs := f (vI w 0) (vI w 1) (vI w 2) (vI w 3) (vS w 4) (vL w 5) (vI w 6) (vI w 7) (vI w 8) (vI w 9) (vS w 10)
def th88 := fun xs => gOf zr88 zo88 (argsT A88 (v88 tu88) xs)
def tu58 := U t58
theorem ue58 : tu58 = t58 := U_eq _
theorem te58 : ta58 tu45 tu88 = t58 := by rw [ue45, ue88]; rfl
def v58 (f : Y58) (w : List Vr) : Rs := f (vI w 0) (vI w 1) (vI w 2) (vI w 3) (vS w 4) (vL w 5) (vI w 6) (vI w 7) (vI w 8) (vI w 9) (vS w 10)
def th58 := fun xs => gOf zr58 zo58 (argsT A58 (v58 tu58) xs)
def tu90 := U t90
theorem ue90 : tu90 = t90 := U_eq _
theorem te90 : ta90 tu58 = t90 := by rw [ue58]; rfl
def v90 (f : Y90) (w : List Vr) : Rs := f (vI w 0) (vI w 1) (vI w 2) (vI w 3) (vS w 4) (vL w 5) (vL w 6) (vB w 7) (vI w 8) (vI w 9) (vI w 10) (vI w 11) (vS w 12)
def th90 := fun xs => gOf zr90 zo90 (argsT A90 (v90 tu90) xs)
def tu66 := U t66
theorem ue66 : tu66 = t66 := U_eq _
theorem te66 : ta66 tu57 tu90 = t66 := by rw [ue57, ue90]; rfl
def v66 (f : Y66) (w : List Vr) : Rs := f (vI w 0) (vI w 1) (vI w 2) (vI w 3) (vS w 4) (vL w 5) (vI w 6) (vI w 7) (vI w 8) (vI w 9) (vS w 10) (vL w 11)
def th66 := fun xs => gOf zr66 zo66 (argsT A66 (v66 tu66) xs)
def tu27 := U t27
theorem ue27 : tu27 = t27 := U_eq _
theorem te27 : ta27 tu56 tu66 = t27 := by rw [ue56, ue66]; rfl
def v27 (f : Y27) (w : List Vr) : Rs := f (vI w 0) (vI w 1) (vI w 2) (vI w 3) (vS w 4) (vL w 5) (vI w 6) (vI w 7) (vI w 8) (vI w 9) (vS w 10) (vL w 11)
def th27 := fun xs => gOf zr27 zo27 (argsT A27 (v27 tu27) xs)
def tu67 := U t67
theorem ue67 : tu67 = t67 := U_eq _
theorem te67 : t67 = t67 := rfl
def v67 (f : Y67) (w : List Vr) : Rs := f (vI w 0) (vI w 1) (vI w 2) (vI w 3) (vS w 4) (vI w 5) (vI w 6) (vI w 7) (vI w 8) (vS w 9)
def th67 := fun xs => gOf zr67 zo67 (argsT A67 (v67 tu67) xs)
def tu28 := U t28
theorem ue28 : tu28 = t28 := U_eq _
theorem te28 : ta28 tu67 = t28 := by rw [ue67]; rfl
def v28 (f : Y28) (w : List Vr) : Rs := f (vL w 0) (vL w 1)
def th28 := fun xs => gOf zr28 zo28 (argsT A28 (v28 tu28) xs)
def tu59 := U t59
theorem ue59 : tu59 = t59 := U_eq _
theorem te59 : t59 = t59 := rfl
def v59 (f : Y59) (w : List Vr) : Rs := f (vI w 0) (vI w 1) (vS w 2) (vI w 3) (vI w 4) (vS w 5)
def th59 := fun xs => gOf zr59 zo59 (argsT A59 (v59 tu59) xs)
def tu89 := U t89
theorem ue89 : tu89 = t89 := U_eq _
theorem te89 : t89 = t89 := rfl
def v89 (f : Y89) (w : List Vr) : Rs := f (vI w 0) (vS w 1) (vI w 2) (vS w 3)
def th89 := fun xs => gOf zr89 zo89 (argsT A89 (v89 tu89) xs)
def tu60 := U t60
theorem ue60 : tu60 = t60 := U_eq _
theorem te60 : ta60 tu89 = t60 := by rw [ue89]; rfl
def v60 (f : Y60) (w : List Vr) : Rs := f (vL w 0) (vL w 1)
def th60 := fun xs => gOf zr60 zo60 (argsT A60 (v60 tu60) xs)
def tu18 := U t18
theorem ue18 : tu18 = t18 := U_eq _
theorem te18 : ta18 tu59 tu60 = t18 := by rw [ue59, ue60]; rfl
def v18 (f : Y18) (w : List Vr) : Rs := f (vI w 0) (vI w 1) (vI w 2) (vI w 3) (vS w 4) (vL w 5) (vI w 6) (vI w 7) (vI w 8) (vI w 9) (vS w 10) (vL w 11)
def th18 := fun xs => gOf zr18 zo18 (argsT A18 (v18 tu18) xs)
def tu68 := U t68
theorem ue68 : tu68 = t68 := U_eq _
theorem te68 : t68 = t68 := rfl
def v68 (f : Y68) (w : List Vr) : Rs := f (vI w 0)
def th68 := fun xs => gOf zr68 zo68 (argsT A68 (v68 tu68) xs)
def tu61 := U t61
theorem ue61 : tu61 = t61 := U_eq _
theorem te61 : ta61 tu68 = t61 := by rw [ue68]; rfl
def v61 (f : Y61) (w : List Vr) : Rs := f (vL w 0) (vI w 1)
def th61 := fun xs => gOf zr61 zo61 (argsT A61 (v61 tu61) xs)
def tu19 := U t19
theorem ue19 : tu19 = t19 := U_eq _
theorem te19 : ta19 tu61 = t19 := by rw [ue61]; rfl
def v19 (f : Y19) (w : List Vr) : Rs := f (vI w 0) (vI w 1) (vI w 2) (vI w 3) (vS w 4) (vL w 5) (vI w 6)
def th19 := fun xs => gOf zr19 zo19 (argsT A19 (v19 tu19) xs)
def tu29 := U t29
theorem ue29 : tu29 = t29 := U_eq _
theorem te29 : ta29 tu68 = t29 := by rw [ue68]; rfl
def v29 (f : Y29) (w : List Vr) : Rs := f (vL w 0) (vI w 1)
def th29 := fun xs => gOf zr29 zo29 (argsT A29 (v29 tu29) xs)
def tu30 := U t30
theorem ue30 : tu30 = t30 := U_eq _
theorem te30 : ta30 tu68 = t30 := by rw [ue68]; rfl
def v30 (f : Y30) (w : List Vr) : Rs := f (vL w 0) (vI w 1)
def th30 := fun xs => gOf zr30 zo30 (argsT A30 (v30 tu30) xs)
def tu5 := U t5
theorem ue5 : tu5 = t5 := U_eq _
theorem te5 : ta5 tu12 tu15 tu18 tu19 tu26 tu27 tu28 tu29 tu30 = t5 := by rw [ue12, ue15, ue18, ue19, ue26, ue27, ue28, ue29, ue30]; rfl
def v5 (f : Y5) (w : List Vr) : Rs := f (vI w 0) (vI w 1) (vI w 2) (vI w 3) (vS w 4) (vL w 5) (vI w 6) (vI w 7) (vI w 8) (vI w 9) (vS w 10) (vL w 11)
def th5 := fun xs => gOf zr5 zo5 (argsT A5 (v5 tu5) xs)
def sg49 : Sig := ⟨[.bor, .bor], .sc [.one (.i .i64 0)], [0, 1, 2, 4, 11], []⟩
def sg82 : Sig := ⟨[.bor, .bor], .sc [.one (.i .i64 0)], [0, 1, 2, 4, 11], []⟩
def sg50 : Sig := ⟨[.bor, .bor], .sc [.one (.i .i64 0)], [0, 1, 4, 5, 11, 15, 25], []⟩
def sg12 : Sig := ⟨[.bor, .bor], .sc [.one (.i .i64 0)], [0, 1, 2, 4, 10, 16], []⟩
def sg54 : Sig := ⟨[.bor], .sc [.agg [.i .i64 0, .i .i64 0, .s ⟨#[]⟩]], [0, 1, 2, 3], []⟩
def sg87 : Sig := ⟨[.bor], .sc [.agg [.i .i64 0, .s ⟨#[]⟩]], [0, 1, 2, 3], []⟩
def sg55 : Sig := ⟨[.bor], .fresh [[some (90, 2)]], [0, 2, 3, 4, 11], []⟩
def sg15 : Sig := ⟨[.bor], .fresh [[none, none, none, none, none, some (90, 2)]], [0, 1, 2, 3], []⟩
def sg83 : Sig := ⟨[.bor, .bor, .bor], .sc [.one (.b false)], [0, 1, 2, 6], []⟩
def sg84 : Sig := ⟨[.bor, .bor], .sc [.one (.b false)], [0, 1, 4, 6], []⟩
def sg51 : Sig := ⟨[.bor], .sc [.one (.b false)], [0, 1, 2, 3, 4, 5, 68, 76, 105], []⟩
def sg65 : Sig := ⟨[.bor, .bor, .bor], .fresh [[some (90, 2)]], [0, 1, 2, 3, 6, 7, 32], []⟩
def sg53 : Sig := ⟨[.bor], .fresh [[none, none, none, none, none, some (90, 2)]], [0, 1, 2], []⟩
def sg85 : Sig := ⟨[.bor], .sc [.one (.b false)], [0, 1, 2, 4, 5, 25, 46, 66], []⟩
def sg94 : Sig := ⟨[.bor], .sc [.one (.i .i64 0)], [0, 1, 2, 6], []⟩
def sg86 : Sig := ⟨[.bor, .bor], .sc [.one (.b false)], [0, 1, 2, 3, 4, 5, 14, 15, 41, 68, 82], [(6, dr 0 26)]⟩
def sg52 : Sig := ⟨[.own [none, none, none, none, none, some (90, 2)], .bor], .fresh [[none, none, none, none, none, some (90, 2)], [none]], [0, 1, 2, 3, 4, 5, 14, 17, 33, 41, 53], []⟩
def sg26 : Sig := ⟨[.bor, .bor], .fresh [[some (38, 5)], [none]], [0, 1, 2, 3, 4, 5, 6, 7, 8, 9, 10, 11, 12, 13, 14, 23, 37, 52, 96, 102, 118, 145, 152, 165], [(12, dr 0 23), (19, dr 0 20 ++ [(20, 1, [0]), (21, 1, []), (22, 1, [])]), (26, [(9, 2, [])] ++ dr 0 5 ++ [(5, 1, [])] ++ dr 6 3 ++ [(10, 1, [8]), (11, 0, [])]), (1000006, [(2816, 0, [])]), (1000014, [(4096, 0, [])]), (1000015, [(4096, 0, []), (7104, 0, [])])]⟩
def sg76 : Sig := ⟨[.bor, .bor, .bor], .sc [.one (.b false)], [0, 1, 2, 6], []⟩
def sg56 : Sig := ⟨[.bor], .sc [.one (.b false)], [0, 1, 2, 3, 5, 21, 48, 54, 55, 56, 57, 72], []⟩
def sg57 : Sig := ⟨[.bor], .fresh [[none, none, none, none, none, some (90, 2)]], [0, 1, 2], []⟩
def sg45 : Sig := ⟨[.bor], .sc [.one (.b false)], [0, 1, 2, 3, 4, 9, 10, 26, 51, 59], [(5, dr 0 5 ++ [(5, 1, [2, 3]), (6, 0, []), (7, 1, [])]), (8, dr 0 7 ++ [(7, 1, [2, 3, 4, 5]), (8, 0, []), (9, 1, [4, 5]), (10, 0, []), (11, 1, [])]), (14, dr 0 7 ++ [(7, 1, [2, 3, 4, 5]), (8, 0, []), (9, 1, [4, 5]), (10, 0, []), (11, 1, [])])]⟩
def sg95 : Sig := ⟨[.rptr 6], .sc [.one (.i .i64 0), .one (.i .i64 0)], [0, 2, 3, 4, 11], [(3, dr 0 12), (4, dr 0 18)]⟩
def sg88 : Sig := ⟨[.rptr 6, .bor], .sc [.one (.b false)], [0, 1, 3, 4, 5, 6, 13, 14, 48, 73], [(4, dr 0 33), (6, dr 0 24), (8, dr 0 11), (9, dr 0 18)]⟩
def sg58 : Sig := ⟨[.ptr [none, none, none, none, none, some (90, 2)], .bor], .sc [.one (.b false)], [0, 1, 3, 4, 5, 6, 7, 16, 18, 47, 70, 82, 98], [(14, dr 0 10 ++ [(10, 1, [0, 1, 2, 3, 4]), (11, 1, [0]), (12, 0, []), (13, 0, []), (14, 1, [])]), (16, dr 0 10), (5, dr 0 9), (6, dr 0 21)]⟩
def sg90 : Sig := ⟨[.ptr [none, none, none, none, none, some (90, 2), some (38, 5), none], .bor], .sc [], [0, 1, 3], [(1, dr 0 10 ++ [(10, 1, [0])] ++ dr 11 4 ++ [(15, 1, [])]), (2, dr 0 6 ++ [(6, 1, [0, 1, 2, 3, 4]), (7, 1, [0]), (8, 0, []), (9, 0, []), (10, 1, [])])]⟩
def sg66 : Sig := ⟨[.bor, .bor], .fresh [[some (38, 5)], [none]], [0, 1, 2, 3, 4, 5, 6, 7, 8, 9, 25, 37, 80, 90, 103, 104, 105, 106, 137], [(7, dr 0 31), (1000001, [(832, 6, [38, 5])])]⟩
def sg27 : Sig := ⟨[.bor, .bor], .fresh [[some (38, 5)], [none]], [0, 1, 2, 3, 4, 5, 13], []⟩
def sg67 : Sig := ⟨[.bor, .bor], .sc [.one (.b false)], [0, 1, 2, 3, 4, 9, 14, 19, 24, 29], []⟩
def sg28 : Sig := ⟨[.bor, .bor], .sc [.one (.b false)], [0, 1, 4, 5, 10, 14, 26], [(6, dr 0 10)]⟩
def sg59 : Sig := ⟨[.bor, .bor], .sc [.one (.b false)], [0, 1, 2, 3, 4, 9, 14, 19], []⟩
def sg89 : Sig := ⟨[.bor, .bor], .sc [.one (.b false)], [0, 1, 2, 3, 4, 9, 14], []⟩
def sg60 : Sig := ⟨[.bor, .bor], .sc [.one (.b false)], [0, 1, 4, 5, 10, 14, 26], [(6, dr 0 10)]⟩
def sg18 : Sig := ⟨[.bor, .bor], .sc [.one (.b false)], [0, 1, 2, 3, 4, 9, 14, 20, 26], []⟩
def sg68 : Sig := ⟨[.bor], .sc [.one (.s ⟨#[]⟩)], [0, 2, 3, 5, 7], []⟩
def sg61 : Sig := ⟨[.io [some (999999999, 2)], .bor], .sc [.one (.i .i64 0)], [0, 1, 4, 5, 9], []⟩
def sg19 : Sig := ⟨[.io [none, none, none, none, none, some (999999999, 2)], .bor], .sc [.one (.i .i64 0)], [0, 1, 2, 4], []⟩
def sg29 : Sig := ⟨[.io [some (999999999, 5)], .bor], .sc [.one (.i .i64 0)], [0, 1, 4, 5, 9], []⟩
def sg30 : Sig := ⟨[.bor, .bor], .sc [.one (.i .i64 0)], [0, 1, 4, 5, 9, 18, 27, 36, 45, 55], [(16, dr 0 8)]⟩
def sg5 : Sig := ⟨[.bor, .bor], .sc [.one (.b false)], [0, 1, 2, 3, 4, 5, 6, 7, 8, 9, 10, 11, 12, 13, 14, 15, 16, 21, 26, 53, 58, 63, 82, 90, 93, 110, 115, 118], [(8, [(0, 0, []), (2, 0, []), (1, 1, [2]), (3, 1, []), (4, 1, [])] ++ dr 5 5), (14, [(0, 0, []), (1, 0, []), (2, 1, [0]), (3, 0, []), (4, 0, [])]), (16, [(0, 0, []), (1, 0, []), (2, 1, [0]), (3, 0, []), (4, 0, [])]), (31, [(0, 0, []), (2, 0, []), (1, 1, [2]), (3, 1, []), (4, 1, [])] ++ dr 5 5)]⟩
def sig : Nat → Sig := lkF ⟨[], .fresh [], [], []⟩ [(49, sg49), (82, sg82), (50, sg50), (12, sg12), (54, sg54), (87, sg87), (55, sg55), (15, sg15), (83, sg83), (84, sg84), (51, sg51), (65, sg65), (53, sg53), (85, sg85), (94, sg94), (86, sg86), (52, sg52), (26, sg26), (76, sg76), (56, sg56), (57, sg57), (45, sg45), (95, sg95), (88, sg88), (58, sg58), (90, sg90), (66, sg66), (27, sg27), (67, sg67), (28, sg28), (59, sg59), (89, sg89), (60, sg60), (18, sg18), (68, sg68), (61, sg61), (19, sg19), (29, sg29), (30, sg30), (5, sg5)]
def dep : Nat → Nat := lkF 0 [(49, 1), (82, 1), (50, 2), (12, 3), (54, 1), (87, 1), (55, 2), (15, 3), (83, 1), (84, 2), (51, 3), (65, 1), (53, 1), (85, 2), (94, 1), (86, 2), (52, 3), (26, 4), (76, 1), (56, 2), (57, 1), (45, 2), (95, 1), (88, 2), (58, 3), (90, 4), (66, 5), (27, 6), (67, 1), (28, 2), (59, 1), (89, 1), (60, 2), (18, 3), (68, 1), (61, 2), (19, 3), (29, 2), (30, 2), (5, 7)]
def gT : List (Nat × (List DV → Bool × List DV × List (List D))) := [(49, th49), (82, th82), (50, th50), (12, th12), (54, th54), (87, th87), (55, th55), (15, th15), (83, th83), (84, th84), (51, th51), (65, th65), (53, th53), (85, th85), (94, th94), (86, th86), (52, th52), (26, th26), (76, th76), (56, th56), (57, th57), (45, th45), (95, th95), (88, th88), (58, th58), (90, th90), (66, th66), (27, th27), (67, th67), (28, th28), (59, th59), (89, th89), (60, th60), (18, th18), (68, th68), (61, th61), (19, th19), (29, th29), (30, th30), (5, th5)]
def G : Nat → List DV → Bool × List DV × List (List D) := lkF (fun _ => (false, [], [])) gT
noncomputable def mkC (f : Nat) : Ctx := ⟨Try.prog, sig, Gd G dep (dep f), (sig f).keep, (sig f).ord⟩
noncomputable def gc (f : Func) : Code := f.body.getD .skip
noncomputable def bd (c : Code) (n : Nat) : Code := match nodeAt c n with | some (.loop a) => a | _ => .skip
def Rp (tw : List Vr → Rs) (C : Ctx) (S : LT) (fn : Func) (sg : Sig) (c : Code) (A : List TA) : Prop := ∀ w, tw w = bodyK C (lkS S) fn sg c (fillAs A 0 w)
theorem okM {Y : Type} {f : Nat} {fn : Func} {S : LT} {A : List TA} {v : Y → List Vr → Rs} {a t u : Y} {c : Code} {zr : List DV} {zo : List (List D)} (r : Rp (v a) (mkC f) S fn (sig f) c A) (hf : Try.prog.funcs[f]? = some fn) (hb : fn.body = some c) (hs : AllS (mkC f) KK c 0 S) (e : a = t) (hu : u = t) : OkS sig (Gd G dep (dep f)) f (fun xs => gOf zr zo (argsT A (v u) xs)) := fun xs q h => body_ok hf hb A (v a) (sums_of hs) r (by rw [e, ← hu]; exact opt_gOf h)
def C49 := mkC 49
def c49 := gc Try.f49
def ST49 : LT := []
theorem r49 : Rp (v49 t49) C49 ST49 Try.f49 (sig 49) c49 A49 := fun w => by kernel_rfl
theorem ok49 : OkS sig (Gd G dep (dep 49)) 49 th49 := okM (v := v49) r49 Try.func49 rfl trivial te49 ue49
def C82 := mkC 82
def c82 := gc Try.f82
def ST82 : LT := []
theorem r82 : Rp (v82 t82) C82 ST82 Try.f82 (sig 82) c82 A82 := fun w => by kernel_rfl
theorem ok82 : OkS sig (Gd G dep (dep 82)) 82 th82 := okM (v := v82) r82 Try.func82 rfl trivial te82 ue82
def C50 := mkC 50
def c50 := gc Try.f50
def T50o1 : TSt := ⟨[dL, dI, dI, dI, dB, .any, .any], []⟩
def X50o1e1 : TSt := ⟨[dL, dI, dI, dI, dB, dB, dB], []⟩
def X50o1e2 : TSt := ⟨[dL, dI, dI, dI, dB, dB, .any], []⟩
def L50o1 (m : Nat) (w : List Vr) (K : KT) : Rs := la50o1 tu82 (vL w 0) (vI w 2) (vB w 4) (fun n22 n23 b24 b25 => K .ret (fillS X50o1e1 [jL w 0, .i n22, .i ((-1 : Int)), .i n23, jB w 4, .b b24, .b b25])) (fun n26 n27 b28 v29 => K (.exit 0) (fillS X50o1e2 [jL w 0, .i n26, jI w 2, .i n27, jB w 4, .b b28, .v v29])) m (vI w 1) (vI w 3) (vV w 5) (vV w 6)
def ST50 : LT := [(1, sumT T50o1 (L50o1 KK))]
def b50o1 := bd c50 1
theorem q50o1 : Qp L50o1 C50 ST50 b50o1 2 T50o1 := fun m w K => by kernel_rfl
theorem o50o1 : SumOk C50 KK (sumT T50o1 (L50o1 KK)) (.loop b50o1) := loop_ok T50o1 L50o1 (sums_of (t := ST50) ⟨fun _ _ h => absurd h (by decide), trivial⟩) (fun _ _ => rfl) q50o1
theorem r50 : Rp (v50 (ta50 tu82)) C50 ST50 Try.f50 (sig 50) c50 A50 := fun w => by kernel_rfl
theorem ok50 : OkS sig (Gd G dep (dep 50)) 50 th50 := okM (v := v50) r50 Try.func50 rfl ⟨sum_in (c' := .loop b50o1) (by kernel_rfl) (o50o1), trivial⟩ te50 ue50
def C12 := mkC 12
def c12 := gc Try.f12
def ST12 : LT := []
theorem r12 : Rp (v12 (ta12 tu49 tu50)) C12 ST12 Try.f12 (sig 12) c12 A12 := fun w => by kernel_rfl
theorem ok12 : OkS sig (Gd G dep (dep 12)) 12 th12 := okM (v := v12) r12 Try.func12 rfl trivial te12 ue12
def C54 := mkC 54
def c54 := gc Try.f54
def ST54 : LT := []
theorem r54 : Rp (v54 t54) C54 ST54 Try.f54 (sig 54) c54 A54 := fun w => by kernel_rfl
theorem ok54 : OkS sig (Gd G dep (dep 54)) 54 th54 := okM (v := v54) r54 Try.func54 rfl trivial te54 ue54
def C87 := mkC 87
def c87 := gc Try.f87
def ST87 : LT := []
theorem r87 : Rp (v87 t87) C87 ST87 Try.f87 (sig 87) c87 A87 := fun w => by kernel_rfl
theorem ok87 : OkS sig (Gd G dep (dep 87)) 87 th87 := okM (v := v87) r87 Try.func87 rfl trivial te87 ue87
def C55 := mkC 55
def c55 := gc Try.f55
def T55o0 : TSt := ⟨[dL, .nils, .own 448, dI, .any], [(448, .row 90 2)]⟩
def X55o0e1 : TSt := ⟨[dL, .nils, .own 448, dI, dB], [(448, .row 90 2)]⟩
def L55o0 (m : Nat) (w : List Vr) (K : KT) : Rs := la55o0 tu87 (vL w 0) (fun n13 b14 l15 => K (.exit 0) (fillS X55o0e1 [jL w 0, .i n13, .b b14, .l l15])) m (vI w 1) (vV w 2) (vL w 3)
def ST55 : LT := [(0, sumT T55o0 (L55o0 KK))]
def b55o0 := bd c55 0
theorem q55o0 : Qp L55o0 C55 ST55 b55o0 1 T55o0 := fun m w K => by kernel_rfl
theorem o55o0 : SumOk C55 KK (sumT T55o0 (L55o0 KK)) (.loop b55o0) := loop_ok T55o0 L55o0 (sums_of (t := ST55) ⟨fun _ _ h => absurd h (by decide), trivial⟩) (fun _ _ => rfl) q55o0
theorem r55 : Rp (v55 (ta55 tu87)) C55 ST55 Try.f55 (sig 55) c55 A55 := fun w => by kernel_rfl
theorem ok55 : OkS sig (Gd G dep (dep 55)) 55 th55 := okM (v := v55) r55 Try.func55 rfl ⟨sum_in (c' := .loop b55o0) (by kernel_rfl) (o55o0), trivial⟩ te55 ue55
def C15 := mkC 15
def c15 := gc Try.f15
def ST15 : LT := []
theorem r15 : Rp (v15 (ta15 tu54 tu55)) C15 ST15 Try.f15 (sig 15) c15 A15 := fun w => by kernel_rfl
theorem ok15 : OkS sig (Gd G dep (dep 15)) 15 th15 := okM (v := v15) r15 Try.func15 rfl trivial te15 ue15
def C83 := mkC 83
def c83 := gc Try.f83
def ST83 : LT := []
theorem r83 : Rp (v83 t83) C83 ST83 Try.f83 (sig 83) c83 A83 := fun w => by kernel_rfl
theorem ok83 : OkS sig (Gd G dep (dep 83)) 83 th83 := okM (v := v83) r83 Try.func83 rfl trivial te83 ue83
def C84 := mkC 84
def c84 := gc Try.f84
def ST84 : LT := []
theorem r84 : Rp (v84 (ta84 tu83)) C84 ST84 Try.f84 (sig 84) c84 A84 := fun w => by kernel_rfl
theorem ok84 : OkS sig (Gd G dep (dep 84)) 84 th84 := okM (v := v84) r84 Try.func84 rfl trivial te84 ue84
def C51 := mkC 51
def c51 := gc Try.f51
def T51o1 : TSt := ⟨[ag0, .ptr 64 0, dB, dI, dI, .undef, dB, .any, .any], [(64, bx2)]⟩
def X51o1e1 : TSt := ⟨[ag0, .ptr 64 0, dB, dI, dI, .ptr 320 0, dB, dB, dB], [(64, bx2), (320, .box [dI, dS])]⟩
def X51o1e2 : TSt := ⟨[ag0, .ptr 64 0, dB, dI, dI, .undef, dB, dB, .any], [(64, bx2)]⟩
def L51o1 (m : Nat) (w : List Vr) (K : KT) : Rs := la51o1 tu83 tu84 (vI w 0) (vI w 1) (vI w 2) (vI w 3) (vS w 4) (vL w 5) (vB w 6) (vB w 9) (vI w 12) (vI w 13) (vI w 14) (vI w 15) (vS w 16) (vL w 17) (fun n59 n60 b61 b62 n63 s64 => K .ret (fillS X51o1e1 [jI w 0, jI w 1, jI w 2, jI w 3, jS w 4, jL w 5, .b (false), .i n59, .i n60, jB w 9, .b b61, .b b62, jI w 12, jI w 13, jI w 14, jI w 15, jS w 16, jL w 17, .i n63, .s s64])) (fun n65 n66 b67 v68 => K (.exit 0) (fillS X51o1e2 [jI w 0, jI w 1, jI w 2, jI w 3, jS w 4, jL w 5, jB w 6, .i n65, .i n66, jB w 9, .b b67, .v v68, jI w 12, jI w 13, jI w 14, jI w 15, jS w 16, jL w 17])) m (vI w 7) (vI w 8) (vV w 10) (vV w 11)
def ST51 : LT := [(1, sumT T51o1 (L51o1 KK))]
def b51o1 := bd c51 1
theorem q51o1 : Qp L51o1 C51 ST51 b51o1 2 T51o1 := fun m w K => by kernel_rfl
theorem o51o1 : SumOk C51 KK (sumT T51o1 (L51o1 KK)) (.loop b51o1) := loop_ok T51o1 L51o1 (sums_of (t := ST51) ⟨fun _ _ h => absurd h (by decide), trivial⟩) (fun _ _ => rfl) q51o1
theorem r51 : Rp (v51 (ta51 tu83 tu84)) C51 ST51 Try.f51 (sig 51) c51 A51 := fun w => by kernel_rfl
theorem ok51 : OkS sig (Gd G dep (dep 51)) 51 th51 := okM (v := v51) r51 Try.func51 rfl ⟨sum_in (c' := .loop b51o1) (by kernel_rfl) (o51o1), trivial⟩ te51 ue51
def C65 := mkC 65
def c65 := gc Try.f65
def ST65 : LT := []
theorem r65 : Rp (v65 t65) C65 ST65 Try.f65 (sig 65) c65 A65 := fun w => by kernel_rfl
theorem ok65 : OkS sig (Gd G dep (dep 65)) 65 th65 := okM (v := v65) r65 Try.func65 rfl trivial te65 ue65
def C53 := mkC 53
def c53 := gc Try.f53
def ST53 : LT := []
theorem r53 : Rp (v53 t53) C53 ST53 Try.f53 (sig 53) c53 A53 := fun w => by kernel_rfl
theorem ok53 : OkS sig (Gd G dep (dep 53)) 53 th53 := okM (v := v53) r53 Try.func53 rfl trivial te53 ue53
def C85 := mkC 85
def c85 := gc Try.f85
def ST85 : LT := []
theorem r85 : Rp (v85 (ta85 tu83)) C85 ST85 Try.f85 (sig 85) c85 A85 := fun w => by kernel_rfl
theorem ok85 : OkS sig (Gd G dep (dep 85)) 85 th85 := okM (v := v85) r85 Try.func85 rfl trivial te85 ue85
def C94 := mkC 94
def c94 := gc Try.f94
def ST94 : LT := []
theorem r94 : Rp (v94 t94) C94 ST94 Try.f94 (sig 94) c94 A94 := fun w => by kernel_rfl
theorem ok94 : OkS sig (Gd G dep (dep 94)) 94 th94 := okM (v := v94) r94 Try.func94 rfl trivial te94 ue94
def C86 := mkC 86
def c86 := gc Try.f86
def ST86 : LT := []
theorem r86 : Rp (v86 (ta86 tu94)) C86 ST86 Try.f86 (sig 86) c86 A86 := fun w => by kernel_rfl
theorem ok86 : OkS sig (Gd G dep (dep 86)) 86 th86 := okM (v := v86) r86 Try.func86 rfl trivial te86 ue86
def C52 := mkC 52
def c52 := gc Try.f52
def ST52 : LT := []
theorem r52 : Rp (v52 (ta52 tu65 tu85 tu86)) C52 ST52 Try.f52 (sig 52) c52 A52 := fun w => by kernel_rfl
theorem ok52 : OkS sig (Gd G dep (dep 52)) 52 th52 := okM (v := v52) r52 Try.func52 rfl trivial te52 ue52
def C26 := mkC 26
def c26 := gc Try.f26
def T26o9 : TSt := ⟨[ag0, ag0, .ptr 128 0, .ptr 192 0, .nils, dB, .own 960, .own 1600, .own 4672, dI, dI, .ptr 704 0, dI, .undef, .any, dB, dB, dB, dB, dB, dB, dB, .any, .any], [bn0, bn1, (704, bx0), (960, .row 38 5), (1600, .row 38 5), (4672, .row 90 2), (45062, .row 90 2)]⟩
def X26o9e1 : TSt := ⟨[ag0, ag0, .ptr 128 0, .ptr 192 0, .own 960, dB, .own 960, .own 1600, .own 4672, dI, dI, .ptr 704 0, dI, .ptr 832 0, dB, dB, dB, dB, dB, dB, dB, dB, dB, dB], [bn0, bn1, (704, .box [dI, dI, dI, dI, dS, .undef]), (832, .box [dI, dI, dI, dI, dS, .own 53254]), (960, .row 38 5), (1600, .row 38 5), (4672, .row 90 2), (53254, .row 90 2)]⟩
def X26o9e2 : TSt := ⟨[ag0, ag0, .ptr 128 0, .ptr 192 0, .nils, dB, .own 960, .own 1600, .own 4672, dI, dI, .ptr 704 0, dI, .undef, .any, dB, dB, dB, dB, dB, dB, dB, dB, .any], [bn0, bn1, (704, bx0), (960, .row 38 5), (1600, .row 38 5), (4672, .row 90 2), (45062, .row 90 2)]⟩
def L26o9 (m : Nat) (w : List Vr) (K : KT) : Rs := la26o9 tu51 tu52 tu53 tu65 (vI w 0) (vI w 1) (vI w 2) (vI w 3) (vS w 4) (vL w 5) (vI w 6) (vI w 7) (vI w 8) (vI w 9) (vS w 10) (vL w 11) (vB w 12) (vI w 13) (vI w 14) (vB w 17) (vB w 18) (vB w 19) (vB w 20) (vB w 21) (vB w 22) (vB w 23) (vI w 26) (vI w 27) (vI w 28) (vI w 29) (vS w 30) (vL w 31) (vI w 32) (vI w 33) (vI w 34) (vI w 35) (vS w 36) (vL w 37) (vL w 43) (vL w 44) (vL w 45) (fun n371 b372 b373 b374 n375 n376 n377 n378 s379 n380 n381 n382 n383 s384 l385 => K .ret (fillS X26o9e1 [jI w 0, jI w 1, jI w 2, jI w 3, jS w 4, jL w 5, jI w 6, jI w 7, jI w 8, jI w 9, jS w 10, jL w 11, .b (false), jI w 13, jI w 14, .i n371, .b b372, jB w 17, jB w 18, jB w 19, jB w 20, jB w 21, jB w 22, jB w 23, .b b373, .b b374, jI w 26, jI w 27, jI w 28, jI w 29, jS w 30, jL w 31, jI w 32, jI w 33, jI w 34, jI w 35, jS w 36, jL w 37, .i n375, .i n376, .i n377, .i n378, .s s379, .i n380, .i n381, .i n382, .i n383, .s s384, jL w 43, jL w 44, jL w 45, .l l385])) (fun n386 v387 b388 v389 n390 n391 n392 n393 s394 l395 => K (.exit 4) (fillS X26o9e2 [jI w 0, jI w 1, jI w 2, jI w 3, jS w 4, jL w 5, jI w 6, jI w 7, jI w 8, jI w 9, jS w 10, jL w 11, jB w 12, jI w 13, jI w 14, .i n386, .v v387, jB w 17, jB w 18, jB w 19, jB w 20, jB w 21, jB w 22, jB w 23, .b b388, .v v389, jI w 26, jI w 27, jI w 28, jI w 29, jS w 30, jL w 31, jI w 32, jI w 33, jI w 34, jI w 35, jS w 36, jL w 37, .i n390, .i n391, .i n392, .i n393, .s s394, jL w 43, jL w 44, jL w 45, .l l395])) m (vI w 15) (vV w 16) (vV w 24) (vV w 25) (vI w 38) (vI w 39) (vI w 40) (vI w 41) (vS w 42) (vL w 46)
def T26o100009 : TSt := ⟨[ag0, ag0, .ptr 128 0, .ptr 192 0, .nils, dB, .own 960, .own 1600, dL, dI, dI, .ptr 704 0, dI, .undef, .any, dB, dB, dB, dB, dB, dB, dB, .any, .any], [bn0, bn1, (704, bx0), (960, .row 38 5), (1600, .row 38 5), (45062, .row 90 2)]⟩
def X26o100009e1 : TSt := ⟨[ag0, ag0, .ptr 128 0, .ptr 192 0, .own 960, dB, .own 960, .own 1600, dL, dI, dI, .ptr 704 0, dI, .ptr 832 0, dB, dB, dB, dB, dB, dB, dB, dB, dB, dB], [bn0, bn1, (704, .box [dI, dI, dI, dI, dS, .undef]), (832, .box [dI, dI, dI, dI, dS, .own 53254]), (960, .row 38 5), (1600, .row 38 5), (53254, .row 90 2)]⟩
def X26o100009e2 : TSt := ⟨[ag0, ag0, .ptr 128 0, .ptr 192 0, .nils, dB, .own 960, .own 1600, dL, dI, dI, .ptr 704 0, dI, .undef, .any, dB, dB, dB, dB, dB, dB, dB, dB, .any], [bn0, bn1, (704, bx0), (960, .row 38 5), (1600, .row 38 5), (45062, .row 90 2)]⟩
def L26o100009 (m : Nat) (w : List Vr) (K : KT) : Rs := la26o100009 tu51 tu52 tu53 tu65 (vI w 0) (vI w 1) (vI w 2) (vI w 3) (vS w 4) (vL w 5) (vI w 6) (vI w 7) (vI w 8) (vI w 9) (vS w 10) (vL w 11) (vB w 12) (vL w 13) (vI w 14) (vI w 15) (vB w 18) (vB w 19) (vB w 20) (vB w 21) (vB w 22) (vB w 23) (vB w 24) (vI w 27) (vI w 28) (vI w 29) (vI w 30) (vS w 31) (vL w 32) (vI w 33) (vI w 34) (vI w 35) (vI w 36) (vS w 37) (vL w 38) (vL w 44) (vL w 45) (fun n775 b776 b777 b778 n779 n780 n781 n782 s783 n784 n785 n786 n787 s788 l789 => K .ret (fillS X26o100009e1 [jI w 0, jI w 1, jI w 2, jI w 3, jS w 4, jL w 5, jI w 6, jI w 7, jI w 8, jI w 9, jS w 10, jL w 11, .b (false), jL w 13, jI w 14, jI w 15, .i n775, .b b776, jB w 18, jB w 19, jB w 20, jB w 21, jB w 22, jB w 23, jB w 24, .b b777, .b b778, jI w 27, jI w 28, jI w 29, jI w 30, jS w 31, jL w 32, jI w 33, jI w 34, jI w 35, jI w 36, jS w 37, jL w 38, .i n779, .i n780, .i n781, .i n782, .s s783, .i n784, .i n785, .i n786, .i n787, .s s788, jL w 44, jL w 45, .l l789])) (fun n790 v791 b792 v793 n794 n795 n796 n797 s798 l799 => K (.exit 4) (fillS X26o100009e2 [jI w 0, jI w 1, jI w 2, jI w 3, jS w 4, jL w 5, jI w 6, jI w 7, jI w 8, jI w 9, jS w 10, jL w 11, jB w 12, jL w 13, jI w 14, jI w 15, .i n790, .v v791, jB w 18, jB w 19, jB w 20, jB w 21, jB w 22, jB w 23, jB w 24, .b b792, .v v793, jI w 27, jI w 28, jI w 29, jI w 30, jS w 31, jL w 32, jI w 33, jI w 34, jI w 35, jI w 36, jS w 37, jL w 38, .i n794, .i n795, .i n796, .i n797, .s s798, jL w 44, jL w 45, .l l799])) m (vI w 16) (vV w 17) (vV w 25) (vV w 26) (vI w 39) (vI w 40) (vI w 41) (vI w 42) (vS w 43) (vL w 46)
def T26o6 : TSt := ⟨[ag0, ag0, .ptr 128 0, .ptr 192 0, .nils, dB, .own 960, .own 1600, .own 4672, dI, dI, .undef, .undef, .undef, .undef, dB, dB, dB, dB, dB, .any, .undef, .undef, .undef], [bn0, bn1, (960, .row 38 5), (1600, .row 38 5), (4672, .row 90 2)]⟩
def X26o6e1 : TSt := ⟨[ag0, ag0, .ptr 128 0, .ptr 192 0, .nils, dB, .own 960, .own 1600, .own 4672, dI, dI, .undef, .undef, .undef, .undef, dB, dB, dB, dB, dB, dB, .undef, .undef, .undef], [bn0, bn1, (960, .row 38 5), (1600, .row 38 5), (4672, .row 90 2)]⟩
def L26o6 (m : Nat) (w : List Vr) (K : KT) : Rs := la26o6 tu51 tu52 tu53 tu65 (vI w 0) (vI w 1) (vI w 2) (vI w 3) (vS w 4) (vL w 5) (vI w 6) (vI w 7) (vI w 8) (vI w 9) (vS w 10) (vL w 11) (vB w 12) (vI w 13) (vB w 15) (vB w 16) (vB w 17) (vB w 18) (vB w 19) (vI w 21) (vI w 22) (vI w 23) (vI w 24) (vS w 25) (vL w 26) (vI w 27) (vI w 28) (vI w 29) (vI w 30) (vS w 31) (vL w 32) (vL w 33) (vL w 35) (fun n227 b228 l229 => K (.exit 2) (fillS X26o6e1 [jI w 0, jI w 1, jI w 2, jI w 3, jS w 4, jL w 5, jI w 6, jI w 7, jI w 8, jI w 9, jS w 10, jL w 11, jB w 12, jI w 13, .i n227, jB w 15, jB w 16, jB w 17, jB w 18, jB w 19, .b b228, jI w 21, jI w 22, jI w 23, jI w 24, jS w 25, jL w 26, jI w 27, jI w 28, jI w 29, jI w 30, jS w 31, jL w 32, jL w 33, .l l229, jL w 35])) m (vI w 14) (vV w 20) (vL w 34)
def T26o100006 : TSt := ⟨[ag0, ag0, .ptr 128 0, .ptr 192 0, .nils, dB, .own 960, .own 1600, dL, dI, dI, .undef, .undef, .undef, .undef, dB, dB, dB, dB, dB, .any, .undef, .undef, .undef], [bn0, bn1, (960, .row 38 5), (1600, .row 38 5)]⟩
def X26o100006e1 : TSt := ⟨[ag0, ag0, .ptr 128 0, .ptr 192 0, .nils, dB, .own 960, .own 1600, dL, dI, dI, .undef, .undef, .undef, .undef, dB, dB, dB, dB, dB, dB, .undef, .undef, .undef], [bn0, bn1, (960, .row 38 5), (1600, .row 38 5)]⟩
def L26o100006 (m : Nat) (w : List Vr) (K : KT) : Rs := la26o100006 tu51 tu52 tu53 tu65 (vI w 0) (vI w 1) (vI w 2) (vI w 3) (vS w 4) (vL w 5) (vI w 6) (vI w 7) (vI w 8) (vI w 9) (vS w 10) (vL w 11) (vB w 12) (vL w 13) (vI w 14) (vB w 16) (vB w 17) (vB w 18) (vB w 19) (vB w 20) (vI w 22) (vI w 23) (vI w 24) (vI w 25) (vS w 26) (vL w 27) (vI w 28) (vI w 29) (vI w 30) (vI w 31) (vS w 32) (vL w 33) (vL w 34) (fun n631 b632 l633 => K (.exit 2) (fillS X26o100006e1 [jI w 0, jI w 1, jI w 2, jI w 3, jS w 4, jL w 5, jI w 6, jI w 7, jI w 8, jI w 9, jS w 10, jL w 11, jB w 12, jL w 13, jI w 14, .i n631, jB w 16, jB w 17, jB w 18, jB w 19, jB w 20, .b b632, jI w 22, jI w 23, jI w 24, jI w 25, jS w 26, jL w 27, jI w 28, jI w 29, jI w 30, jI w 31, jS w 32, jL w 33, jL w 34, .l l633])) m (vI w 15) (vV w 21) (vL w 35)
def T26o3 : TSt := ⟨[ag0, ag0, .ptr 128 0, .ptr 192 0, .nils, dB, .own 960, .own 1600, .own 4672, dI, .undef, .undef, .undef, .undef, .undef, dB, dB, dB, .any, .undef, .undef, .undef, .undef, .undef], [bn0, bn1, (960, .row 38 5), (1600, .row 38 5), (4096, .row 38 5), (4672, .row 90 2)]⟩
def X26o3e1 : TSt := ⟨[ag0, ag0, .ptr 128 0, .ptr 192 0, .nils, dB, .own 960, .own 1600, .own 4672, dI, .undef, .undef, .undef, .undef, .undef, dB, dB, dB, dB, .undef, .undef, .undef, .undef, .undef], [bn0, bn1, (960, .row 38 5), (1600, .row 38 5), (4096, .row 38 5), (4672, .row 90 2)]⟩
def L26o3 (m : Nat) (w : List Vr) (K : KT) : Rs := la26o3 tu51 tu52 tu53 tu65 (vI w 0) (vI w 1) (vI w 2) (vI w 3) (vS w 4) (vL w 5) (vI w 6) (vI w 7) (vI w 8) (vI w 9) (vS w 10) (vL w 11) (vB w 12) (vB w 14) (vB w 15) (vB w 16) (vI w 18) (vI w 19) (vI w 20) (vI w 21) (vS w 22) (vL w 23) (vI w 24) (vI w 25) (vI w 26) (vI w 27) (vS w 28) (vL w 29) (vL w 30) (vL w 31) (vL w 32) (vL w 33) (fun n115 b116 => K (.exit 0) (fillS X26o3e1 [jI w 0, jI w 1, jI w 2, jI w 3, jS w 4, jL w 5, jI w 6, jI w 7, jI w 8, jI w 9, jS w 10, jL w 11, jB w 12, .i n115, jB w 14, jB w 15, jB w 16, .b b116, jI w 18, jI w 19, jI w 20, jI w 21, jS w 22, jL w 23, jI w 24, jI w 25, jI w 26, jI w 27, jS w 28, jL w 29, jL w 30, jL w 31, jL w 32, jL w 33])) m (vI w 13) (vV w 17)
def T26o100003 : TSt := ⟨[ag0, ag0, .ptr 128 0, .ptr 192 0, .nils, dB, .own 960, .own 1600, dL, dI, .undef, .undef, .undef, .undef, .undef, dB, dB, dB, .any, .undef, .undef, .undef, .undef, .undef], [bn0, bn1, (960, .row 38 5), (1600, .row 38 5)]⟩
def X26o100003e1 : TSt := ⟨[ag0, ag0, .ptr 128 0, .ptr 192 0, .nils, dB, .own 960, .own 1600, dL, dI, .undef, .undef, .undef, .undef, .undef, dB, dB, dB, dB, .undef, .undef, .undef, .undef, .undef], [bn0, bn1, (960, .row 38 5), (1600, .row 38 5)]⟩
def L26o100003 (m : Nat) (w : List Vr) (K : KT) : Rs := la26o100003 tu51 tu52 tu53 tu65 (vI w 0) (vI w 1) (vI w 2) (vI w 3) (vS w 4) (vL w 5) (vI w 6) (vI w 7) (vI w 8) (vI w 9) (vS w 10) (vL w 11) (vB w 12) (vL w 13) (vB w 15) (vB w 16) (vB w 17) (vI w 19) (vI w 20) (vI w 21) (vI w 22) (vS w 23) (vL w 24) (vI w 25) (vI w 26) (vI w 27) (vI w 28) (vS w 29) (vL w 30) (vL w 31) (vL w 32) (fun n519 b520 => K (.exit 0) (fillS X26o100003e1 [jI w 0, jI w 1, jI w 2, jI w 3, jS w 4, jL w 5, jI w 6, jI w 7, jI w 8, jI w 9, jS w 10, jL w 11, jB w 12, jL w 13, .i n519, jB w 15, jB w 16, jB w 17, .b b520, jI w 19, jI w 20, jI w 21, jI w 22, jS w 23, jL w 24, jI w 25, jI w 26, jI w 27, jI w 28, jS w 29, jL w 30, jL w 31, jL w 32])) m (vI w 14) (vV w 18)
def ST26 : LT := [(9, altS T26o9 (sumT T26o9 (L26o9 KK)) (sumT T26o100009 (L26o100009 KK))), (6, altS T26o6 (sumT T26o6 (L26o6 KK)) (sumT T26o100006 (L26o100006 KK))), (3, altS T26o3 (sumT T26o3 (L26o3 KK)) (sumT T26o100003 (L26o100003 KK)))]
def b26o9 := bd c26 9
def b26o6 := bd c26 6
def b26o3 := bd c26 3
theorem q26o9 : Qp L26o9 C26 ST26 b26o9 10 T26o9 := fun m w K => by kernel_rfl
theorem o26o9 : SumOk C26 KK (sumT T26o9 (L26o9 KK)) (.loop b26o9) := loop_ok T26o9 L26o9 (sums_of (t := ST26) ⟨fun _ _ h => absurd h (by decide), fun _ _ h => absurd h (by decide), fun _ _ h => absurd h (by decide), trivial⟩) (fun _ _ => rfl) q26o9
theorem q26o100009 : Qp L26o100009 C26 ST26 b26o9 10 T26o100009 := fun m w K => by kernel_rfl
theorem o26o100009 : SumOk C26 KK (sumT T26o100009 (L26o100009 KK)) (.loop b26o9) := loop_ok T26o100009 L26o100009 (sums_of (t := ST26) ⟨fun _ _ h => absurd h (by decide), fun _ _ h => absurd h (by decide), fun _ _ h => absurd h (by decide), trivial⟩) (fun _ _ => rfl) q26o100009
theorem q26o6 : Qp L26o6 C26 ST26 b26o6 7 T26o6 := fun m w K => by kernel_rfl
theorem o26o6 : SumOk C26 KK (sumT T26o6 (L26o6 KK)) (.loop b26o6) := loop_ok T26o6 L26o6 (sums_of (t := ST26) ⟨sum_out (by kernel_rfl), fun _ _ h => absurd h (by decide), fun _ _ h => absurd h (by decide), trivial⟩) (fun _ _ => rfl) q26o6
theorem q26o100006 : Qp L26o100006 C26 ST26 b26o6 7 T26o100006 := fun m w K => by kernel_rfl
theorem o26o100006 : SumOk C26 KK (sumT T26o100006 (L26o100006 KK)) (.loop b26o6) := loop_ok T26o100006 L26o100006 (sums_of (t := ST26) ⟨sum_out (by kernel_rfl), fun _ _ h => absurd h (by decide), fun _ _ h => absurd h (by decide), trivial⟩) (fun _ _ => rfl) q26o100006
theorem q26o3 : Qp L26o3 C26 ST26 b26o3 4 T26o3 := fun m w K => by kernel_rfl
theorem o26o3 : SumOk C26 KK (sumT T26o3 (L26o3 KK)) (.loop b26o3) := loop_ok T26o3 L26o3 (sums_of (t := ST26) ⟨sum_out (by kernel_rfl), sum_out (by kernel_rfl), fun _ _ h => absurd h (by decide), trivial⟩) (fun _ _ => rfl) q26o3
theorem q26o100003 : Qp L26o100003 C26 ST26 b26o3 4 T26o100003 := fun m w K => by kernel_rfl
theorem o26o100003 : SumOk C26 KK (sumT T26o100003 (L26o100003 KK)) (.loop b26o3) := loop_ok T26o100003 L26o100003 (sums_of (t := ST26) ⟨sum_out (by kernel_rfl), sum_out (by kernel_rfl), fun _ _ h => absurd h (by decide), trivial⟩) (fun _ _ => rfl) q26o100003
theorem r26 : Rp (v26 (ta26 tu51 tu52 tu53 tu65)) C26 ST26 Try.f26 (sig 26) c26 A26 := fun w => by kernel_rfl
theorem ok26 : OkS sig (Gd G dep (dep 26)) 26 th26 := okM (v := v26) r26 Try.func26 rfl ⟨sum_in (c' := .loop b26o9) (by kernel_rfl) (alt_ok o26o9 (o26o100009)), sum_in (c' := .loop b26o6) (by kernel_rfl) (alt_ok o26o6 (o26o100006)), sum_in (c' := .loop b26o3) (by kernel_rfl) (alt_ok o26o3 (o26o100003)), trivial⟩ te26 ue26
def C76 := mkC 76
def c76 := gc Try.f76
def ST76 : LT := []
theorem r76 : Rp (v76 t76) C76 ST76 Try.f76 (sig 76) c76 A76 := fun w => by kernel_rfl
theorem ok76 : OkS sig (Gd G dep (dep 76)) 76 th76 := okM (v := v76) r76 Try.func76 rfl trivial te76 ue76
def C56 := mkC 56
def c56 := gc Try.f56
def T56o2 : TSt := ⟨[ag0, .ptr 64 0, dB, dI, .undef, dB, dB, dL, dI, dI, .any, .any], [(64, bx2)]⟩
def X56o2e1 : TSt := ⟨[ag0, .ptr 64 0, dB, dI, .ptr 320 0, dB, dB, dL, dI, dI, dB, dB], [(64, bx2), (320, .box [dI, dS])]⟩
def X56o2e2 : TSt := ⟨[ag0, .ptr 64 0, dB, dI, .undef, dB, dB, dL, dI, dI, dB, .any], [(64, bx2)]⟩
def L56o2 (m : Nat) (w : List Vr) (K : KT) : Rs := la56o2 tu76 (vI w 0) (vI w 1) (vI w 2) (vI w 3) (vS w 4) (vL w 5) (vB w 6) (vB w 8) (vB w 9) (vL w 10) (vI w 11) (vI w 15) (vI w 16) (vI w 17) (vI w 18) (vS w 19) (vL w 20) (fun n68 n69 b70 b71 n72 s73 => K .ret (fillS X56o2e1 [jI w 0, jI w 1, jI w 2, jI w 3, jS w 4, jL w 5, .b (false), .i n68, jB w 8, jB w 9, jL w 10, jI w 11, .i n69, .b b70, .b b71, jI w 15, jI w 16, jI w 17, jI w 18, jS w 19, jL w 20, .i n72, .s s73])) (fun n74 n75 b76 v77 => K (.exit 0) (fillS X56o2e2 [jI w 0, jI w 1, jI w 2, jI w 3, jS w 4, jL w 5, jB w 6, .i n74, jB w 8, jB w 9, jL w 10, jI w 11, .i n75, .b b76, .v v77, jI w 15, jI w 16, jI w 17, jI w 18, jS w 19, jL w 20])) m (vI w 7) (vI w 12) (vV w 13) (vV w 14)
def ST56 : LT := [(2, sumT T56o2 (L56o2 KK))]
def b56o2 := bd c56 2
theorem q56o2 : Qp L56o2 C56 ST56 b56o2 3 T56o2 := fun m w K => by kernel_rfl
theorem o56o2 : SumOk C56 KK (sumT T56o2 (L56o2 KK)) (.loop b56o2) := loop_ok T56o2 L56o2 (sums_of (t := ST56) ⟨fun _ _ h => absurd h (by decide), trivial⟩) (fun _ _ => rfl) q56o2
theorem r56 : Rp (v56 (ta56 tu76)) C56 ST56 Try.f56 (sig 56) c56 A56 := fun w => by kernel_rfl
theorem ok56 : OkS sig (Gd G dep (dep 56)) 56 th56 := okM (v := v56) r56 Try.func56 rfl ⟨sum_in (c' := .loop b56o2) (by kernel_rfl) (o56o2), trivial⟩ te56 ue56
def C57 := mkC 57
def c57 := gc Try.f57
def ST57 : LT := []
theorem r57 : Rp (v57 t57) C57 ST57 Try.f57 (sig 57) c57 A57 := fun w => by kernel_rfl
theorem ok57 : OkS sig (Gd G dep (dep 57)) 57 th57 := okM (v := v57) r57 Try.func57 rfl trivial te57 ue57
def C45 := mkC 45
def c45 := gc Try.f45
def ST45 : LT := []
theorem r45 : Rp (v45 (ta45 tu76)) C45 ST45 Try.f45 (sig 45) c45 A45 := fun w => by kernel_rfl
theorem ok45 : OkS sig (Gd G dep (dep 45)) 45 th45 := okM (v := v45) r45 Try.func45 rfl trivial te45 ue45
def C95 := mkC 95
def c95 := gc Try.f95
def ST95 : LT := []
theorem r95 : Rp (v95 t95) C95 ST95 Try.f95 (sig 95) c95 A95 := fun w => by kernel_rfl
theorem ok95 : OkS sig (Gd G dep (dep 95)) 95 th95 := okM (v := v95) r95 Try.func95 rfl trivial te95 ue95
def C88 := mkC 88
def c88 := gc Try.f88
def ST88 : LT := []
theorem r88 : Rp (v88 (ta88 tu76 tu95)) C88 ST88 Try.f88 (sig 88) c88 A88 := fun w => by kernel_rfl
theorem ok88 : OkS sig (Gd G dep (dep 88)) 88 th88 := okM (v := v88) r88 Try.func88 rfl trivial te88 ue88
def C58 := mkC 58
def c58 := gc Try.f58
def ST58 : LT := []
theorem r58 : Rp (v58 (ta58 tu45 tu88)) C58 ST58 Try.f58 (sig 58) c58 A58 := fun w => by kernel_rfl
theorem ok58 : OkS sig (Gd G dep (dep 58)) 58 th58 := okM (v := v58) r58 Try.func58 rfl trivial te58 ue58
def C90 := mkC 90
def c90 := gc Try.f90
def ST90 : LT := []
theorem r90 : Rp (v90 (ta90 tu58)) C90 ST90 Try.f90 (sig 90) c90 A90 := fun w => by kernel_rfl
theorem ok90 : OkS sig (Gd G dep (dep 90)) 90 th90 := okM (v := v90) r90 Try.func90 rfl trivial te90 ue90
def C66 := mkC 66
def c66 := gc Try.f66
def T66o5 : TSt := ⟨[ag0, ag0, .ptr 128 0, .ptr 192 0, .nils, dB, .ptr 832 0, dI, .any, .undef, dB, dB, dB, dB, dL, dI, dI, .any, .undef], [bn0, bn1, (832, bx1), (53254, .row 90 2), (53255, .row 38 5)]⟩
def X66o5e1 : TSt := ⟨[ag0, ag0, .ptr 128 0, .ptr 192 0, .nils, dB, .ptr 832 0, dI, .any, .undef, dB, dB, dB, dB, dL, dI, dI, dB, .undef], [bn0, bn1, (832, bx1), (53254, .row 90 2), (53255, .row 38 5)]⟩
def L66o5 (m : Nat) (w : List Vr) (K : KT) : Rs := la66o5 tu57 tu90 (vI w 0) (vI w 1) (vI w 2) (vI w 3) (vS w 4) (vL w 5) (vI w 6) (vI w 7) (vI w 8) (vI w 9) (vS w 10) (vL w 11) (vB w 12) (vI w 13) (vB w 15) (vB w 16) (vB w 17) (vB w 18) (vL w 19) (vI w 20) (vI w 23) (vI w 24) (vI w 25) (vI w 26) (vS w 27) (vL w 28) (vI w 29) (vI w 30) (vI w 31) (vI w 32) (vS w 33) (vL w 34) (fun v278 n279 b280 n281 n282 n283 n284 s285 b286 l287 l288 => K (.exit 2) (fillS X66o5e1 [jI w 0, jI w 1, jI w 2, jI w 3, jS w 4, jL w 5, jI w 6, jI w 7, jI w 8, jI w 9, jS w 10, jL w 11, jB w 12, jI w 13, .v v278, jB w 15, jB w 16, jB w 17, jB w 18, jL w 19, jI w 20, .i n279, .b b280, jI w 23, jI w 24, jI w 25, jI w 26, jS w 27, jL w 28, jI w 29, jI w 30, jI w 31, jI w 32, jS w 33, jL w 34, .i n281, .i n282, .i n283, .i n284, .s s285, .b b286, .l l287, .l l288])) m (vV w 14) (vI w 21) (vV w 22) (vI w 35) (vI w 36) (vI w 37) (vI w 38) (vS w 39) (vB w 40) (vL w 41) (vL w 42)
def T66o2 : TSt := ⟨[ag0, ag0, .ptr 128 0, .ptr 192 0, .nils, dB, .ptr 832 0, dI, .undef, .undef, dB, dB, .any, .undef, .undef, .undef, .undef, .undef, .undef], [bn0, bn1, (832, bx1), (53254, .row 90 2), (53255, .row 38 5)]⟩
def X66o2e1 : TSt := ⟨[ag0, ag0, .ptr 128 0, .ptr 192 0, .nils, dB, .ptr 832 0, dI, .undef, .undef, dB, dB, dB, .undef, .undef, .undef, .undef, .undef, .undef], [bn0, bn1, (832, bx1), (53254, .row 90 2), (53255, .row 38 5)]⟩
def L66o2 (m : Nat) (w : List Vr) (K : KT) : Rs := la66o2 tu57 tu90 (vI w 0) (vI w 1) (vI w 2) (vI w 3) (vS w 4) (vL w 5) (vI w 6) (vI w 7) (vI w 8) (vI w 9) (vS w 10) (vL w 11) (vB w 12) (vB w 14) (vB w 15) (vI w 17) (vI w 18) (vI w 19) (vI w 20) (vS w 21) (vL w 22) (vI w 23) (vI w 24) (vI w 25) (vI w 26) (vS w 27) (vL w 28) (vI w 29) (vI w 30) (vI w 31) (vI w 32) (vS w 33) (vB w 34) (vL w 35) (vL w 36) (fun n139 b140 => K (.exit 0) (fillS X66o2e1 [jI w 0, jI w 1, jI w 2, jI w 3, jS w 4, jL w 5, jI w 6, jI w 7, jI w 8, jI w 9, jS w 10, jL w 11, jB w 12, .i n139, jB w 14, jB w 15, .b b140, jI w 17, jI w 18, jI w 19, jI w 20, jS w 21, jL w 22, jI w 23, jI w 24, jI w 25, jI w 26, jS w 27, jL w 28, jI w 29, jI w 30, jI w 31, jI w 32, jS w 33, jB w 34, jL w 35, jL w 36])) m (vI w 13) (vV w 16)
def ST66 : LT := [(5, sumT T66o5 (L66o5 KK)), (2, sumT T66o2 (L66o2 KK))]
def b66o5 := bd c66 5
def b66o2 := bd c66 2
theorem q66o5 : Qp L66o5 C66 ST66 b66o5 6 T66o5 := fun m w K => by kernel_rfl
theorem o66o5 : SumOk C66 KK (sumT T66o5 (L66o5 KK)) (.loop b66o5) := loop_ok T66o5 L66o5 (sums_of (t := ST66) ⟨fun _ _ h => absurd h (by decide), fun _ _ h => absurd h (by decide), trivial⟩) (fun _ _ => rfl) q66o5
theorem q66o2 : Qp L66o2 C66 ST66 b66o2 3 T66o2 := fun m w K => by kernel_rfl
theorem o66o2 : SumOk C66 KK (sumT T66o2 (L66o2 KK)) (.loop b66o2) := loop_ok T66o2 L66o2 (sums_of (t := ST66) ⟨sum_out (by kernel_rfl), fun _ _ h => absurd h (by decide), trivial⟩) (fun _ _ => rfl) q66o2
theorem r66 : Rp (v66 (ta66 tu57 tu90)) C66 ST66 Try.f66 (sig 66) c66 A66 := fun w => by kernel_rfl
theorem ok66 : OkS sig (Gd G dep (dep 66)) 66 th66 := okM (v := v66) r66 Try.func66 rfl ⟨sum_in (c' := .loop b66o5) (by kernel_rfl) (o66o5), sum_in (c' := .loop b66o2) (by kernel_rfl) (o66o2), trivial⟩ te66 ue66
def C27 := mkC 27
def c27 := gc Try.f27
def ST27 : LT := []
theorem r27 : Rp (v27 (ta27 tu56 tu66)) C27 ST27 Try.f27 (sig 27) c27 A27 := fun w => by kernel_rfl
theorem ok27 : OkS sig (Gd G dep (dep 27)) 27 th27 := okM (v := v27) r27 Try.func27 rfl trivial te27 ue27
def C67 := mkC 67
def c67 := gc Try.f67
def ST67 : LT := []
theorem r67 : Rp (v67 t67) C67 ST67 Try.f67 (sig 67) c67 A67 := fun w => by kernel_rfl
theorem ok67 : OkS sig (Gd G dep (dep 67)) 67 th67 := okM (v := v67) r67 Try.func67 rfl trivial te67 ue67
def C28 := mkC 28
def c28 := gc Try.f28
def T28o1 : TSt := ⟨[dL, dL, dB, dI, dB, .any, .any], []⟩
def X28o1e1 : TSt := ⟨[dL, dL, dB, dI, dB, dB, dB], []⟩
def X28o1e2 : TSt := ⟨[dL, dL, dB, dI, dB, dB, .any], []⟩
def L28o1 (m : Nat) (w : List Vr) (K : KT) : Rs := la28o1 tu67 (vL w 0) (vL w 1) (vB w 2) (vB w 4) (fun n22 b23 b24 => K .ret (fillS X28o1e1 [jL w 0, jL w 1, .b (false), .i n22, jB w 4, .b b23, .b b24])) (fun n25 b26 v27 => K (.exit 0) (fillS X28o1e2 [jL w 0, jL w 1, jB w 2, .i n25, jB w 4, .b b26, .v v27])) m (vI w 3) (vV w 5) (vV w 6)
def ST28 : LT := [(1, sumT T28o1 (L28o1 KK))]
def b28o1 := bd c28 1
theorem q28o1 : Qp L28o1 C28 ST28 b28o1 2 T28o1 := fun m w K => by kernel_rfl
theorem o28o1 : SumOk C28 KK (sumT T28o1 (L28o1 KK)) (.loop b28o1) := loop_ok T28o1 L28o1 (sums_of (t := ST28) ⟨fun _ _ h => absurd h (by decide), trivial⟩) (fun _ _ => rfl) q28o1
theorem r28 : Rp (v28 (ta28 tu67)) C28 ST28 Try.f28 (sig 28) c28 A28 := fun w => by kernel_rfl
theorem ok28 : OkS sig (Gd G dep (dep 28)) 28 th28 := okM (v := v28) r28 Try.func28 rfl ⟨sum_in (c' := .loop b28o1) (by kernel_rfl) (o28o1), trivial⟩ te28 ue28
def C59 := mkC 59
def c59 := gc Try.f59
def ST59 : LT := []
theorem r59 : Rp (v59 t59) C59 ST59 Try.f59 (sig 59) c59 A59 := fun w => by kernel_rfl
theorem ok59 : OkS sig (Gd G dep (dep 59)) 59 th59 := okM (v := v59) r59 Try.func59 rfl trivial te59 ue59
def C89 := mkC 89
def c89 := gc Try.f89
def ST89 : LT := []
theorem r89 : Rp (v89 t89) C89 ST89 Try.f89 (sig 89) c89 A89 := fun w => by kernel_rfl
theorem ok89 : OkS sig (Gd G dep (dep 89)) 89 th89 := okM (v := v89) r89 Try.func89 rfl trivial te89 ue89
def C60 := mkC 60
def c60 := gc Try.f60
def T60o1 : TSt := ⟨[dL, dL, dB, dI, dB, .any, .any], []⟩
def X60o1e1 : TSt := ⟨[dL, dL, dB, dI, dB, dB, dB], []⟩
def X60o1e2 : TSt := ⟨[dL, dL, dB, dI, dB, dB, .any], []⟩
def L60o1 (m : Nat) (w : List Vr) (K : KT) : Rs := la60o1 tu89 (vL w 0) (vL w 1) (vB w 2) (vB w 4) (fun n22 b23 b24 => K .ret (fillS X60o1e1 [jL w 0, jL w 1, .b (false), .i n22, jB w 4, .b b23, .b b24])) (fun n25 b26 v27 => K (.exit 0) (fillS X60o1e2 [jL w 0, jL w 1, jB w 2, .i n25, jB w 4, .b b26, .v v27])) m (vI w 3) (vV w 5) (vV w 6)
def ST60 : LT := [(1, sumT T60o1 (L60o1 KK))]
def b60o1 := bd c60 1
theorem q60o1 : Qp L60o1 C60 ST60 b60o1 2 T60o1 := fun m w K => by kernel_rfl
theorem o60o1 : SumOk C60 KK (sumT T60o1 (L60o1 KK)) (.loop b60o1) := loop_ok T60o1 L60o1 (sums_of (t := ST60) ⟨fun _ _ h => absurd h (by decide), trivial⟩) (fun _ _ => rfl) q60o1
theorem r60 : Rp (v60 (ta60 tu89)) C60 ST60 Try.f60 (sig 60) c60 A60 := fun w => by kernel_rfl
theorem ok60 : OkS sig (Gd G dep (dep 60)) 60 th60 := okM (v := v60) r60 Try.func60 rfl ⟨sum_in (c' := .loop b60o1) (by kernel_rfl) (o60o1), trivial⟩ te60 ue60
def C18 := mkC 18
def c18 := gc Try.f18
def ST18 : LT := []
theorem r18 : Rp (v18 (ta18 tu59 tu60)) C18 ST18 Try.f18 (sig 18) c18 A18 := fun w => by kernel_rfl
theorem ok18 : OkS sig (Gd G dep (dep 18)) 18 th18 := okM (v := v18) r18 Try.func18 rfl trivial te18 ue18
def C68 := mkC 68
def c68 := gc Try.f68
def T68o1 : TSt := ⟨[dI, dS, dS, dB, .any], []⟩
def X68o1e1 : TSt := ⟨[dI, dS, dS, dB, dB], []⟩
def L68o1 (m : Nat) (w : List Vr) (K : KT) : Rs := l68o1 (vS w 1) (vB w 3) (fun n16 s17 b18 => K (.exit 0) (fillS X68o1e1 [.i n16, jS w 1, .s s17, jB w 3, .b b18])) m (vI w 0) (vS w 2) (vV w 4)
def ST68 : LT := [(1, sumT T68o1 (L68o1 KK))]
def b68o1 := bd c68 1
theorem q68o1 : Qp L68o1 C68 ST68 b68o1 2 T68o1 := fun m w K => by kernel_rfl
theorem o68o1 : SumOk C68 KK (sumT T68o1 (L68o1 KK)) (.loop b68o1) := loop_ok T68o1 L68o1 (sums_of (t := ST68) ⟨fun _ _ h => absurd h (by decide), trivial⟩) (fun _ _ => rfl) q68o1
theorem r68 : Rp (v68 t68) C68 ST68 Try.f68 (sig 68) c68 A68 := fun w => by kernel_rfl
theorem ok68 : OkS sig (Gd G dep (dep 68)) 68 th68 := okM (v := v68) r68 Try.func68 rfl ⟨sum_in (c' := .loop b68o1) (by kernel_rfl) (o68o1), trivial⟩ te68 ue68
def C61 := mkC 61
def c61 := gc Try.f61
def T61o0 : TSt := ⟨[.own 1, dI, dI, dI, .any], [(1, .row 999999999 2)]⟩
def X61o0e1 : TSt := ⟨[.own 1, dI, dI, dI, dB], [(1, .row 999999999 2)]⟩
def L61o0 (m : Nat) (w : List Vr) (K : KT) : Rs := la61o0 tu68 (vI w 1) (fun n17 n18 b19 l20 => K (.exit 0) (fillS X61o0e1 [.i n17, jI w 1, .i n18, .b b19, .l l20])) m (vI w 0) (vI w 2) (vV w 3) (vL w 4)
def ST61 : LT := [(0, sumT T61o0 (L61o0 KK))]
def b61o0 := bd c61 0
theorem q61o0 : Qp L61o0 C61 ST61 b61o0 1 T61o0 := fun m w K => by kernel_rfl
theorem o61o0 : SumOk C61 KK (sumT T61o0 (L61o0 KK)) (.loop b61o0) := loop_ok T61o0 L61o0 (sums_of (t := ST61) ⟨fun _ _ h => absurd h (by decide), trivial⟩) (fun _ _ => rfl) q61o0
theorem r61 : Rp (v61 (ta61 tu68)) C61 ST61 Try.f61 (sig 61) c61 A61 := fun w => by kernel_rfl
theorem ok61 : OkS sig (Gd G dep (dep 61)) 61 th61 := okM (v := v61) r61 Try.func61 rfl ⟨sum_in (c' := .loop b61o0) (by kernel_rfl) (o61o0), trivial⟩ te61 ue61
def C19 := mkC 19
def c19 := gc Try.f19
def ST19 : LT := []
theorem r19 : Rp (v19 (ta19 tu61)) C19 ST19 Try.f19 (sig 19) c19 A19 := fun w => by kernel_rfl
theorem ok19 : OkS sig (Gd G dep (dep 19)) 19 th19 := okM (v := v19) r19 Try.func19 rfl trivial te19 ue19
def C29 := mkC 29
def c29 := gc Try.f29
def T29o0 : TSt := ⟨[.own 1, dI, dI, dI, .any], [(1, .row 999999999 5)]⟩
def X29o0e1 : TSt := ⟨[.own 1, dI, dI, dI, dB], [(1, .row 999999999 5)]⟩
def L29o0 (m : Nat) (w : List Vr) (K : KT) : Rs := la29o0 tu68 (vI w 1) (fun n17 n18 b19 l20 => K (.exit 0) (fillS X29o0e1 [.i n17, jI w 1, .i n18, .b b19, .l l20])) m (vI w 0) (vI w 2) (vV w 3) (vL w 4)
def ST29 : LT := [(0, sumT T29o0 (L29o0 KK))]
def b29o0 := bd c29 0
theorem q29o0 : Qp L29o0 C29 ST29 b29o0 1 T29o0 := fun m w K => by kernel_rfl
theorem o29o0 : SumOk C29 KK (sumT T29o0 (L29o0 KK)) (.loop b29o0) := loop_ok T29o0 L29o0 (sums_of (t := ST29) ⟨fun _ _ h => absurd h (by decide), trivial⟩) (fun _ _ => rfl) q29o0
theorem r29 : Rp (v29 (ta29 tu68)) C29 ST29 Try.f29 (sig 29) c29 A29 := fun w => by kernel_rfl
theorem ok29 : OkS sig (Gd G dep (dep 29)) 29 th29 := okM (v := v29) r29 Try.func29 rfl ⟨sum_in (c' := .loop b29o0) (by kernel_rfl) (o29o0), trivial⟩ te29 ue29
def C30 := mkC 30
def c30 := gc Try.f30
def T30o0 : TSt := ⟨[dL, dI, dI, dI, .any, .any, .any, .any, .any, .any], []⟩
def X30o0e1 : TSt := ⟨[dL, dI, dI, dI, dB, dB, .any, .any, .any, .any], []⟩
def X30o0e2 : TSt := ⟨[dL, dI, dI, dI, dB, dB, dB, .any, .any, .any], []⟩
def X30o0e3 : TSt := ⟨[dL, dI, dI, dI, dB, dB, dB, dB, .any, .any], []⟩
def X30o0e4 : TSt := ⟨[dL, dI, dI, dI, dB, dB, dB, dB, dB, .any], []⟩
def X30o0e5 : TSt := ⟨[dL, dI, dI, dI, dB, dB, dB, dB, dB, dB], []⟩
def X30o0e6 : TSt := ⟨[dL, dI, dI, dI, dB, .any, .any, .any, .any, .any], []⟩
def L30o0 (m : Nat) (w : List Vr) (K : KT) : Rs := la30o0 tu68 (vL w 0) (vI w 2) (fun n27 n28 b29 b30 v31 v32 v33 v34 => K .ret (fillS X30o0e1 [jL w 0, .i n27, .i ((-1 : Int)), .i n28, .b b29, .b b30, .v v31, .v v32, .v v33, .v v34])) (fun n35 n36 b37 b38 b39 v40 v41 v42 => K .ret (fillS X30o0e2 [jL w 0, .i n35, .i ((-1 : Int)), .i n36, .b b37, .b b38, .b b39, .v v40, .v v41, .v v42])) (fun n43 n44 b45 b46 b47 b48 v49 v50 => K .ret (fillS X30o0e3 [jL w 0, .i n43, .i ((-1 : Int)), .i n44, .b b45, .b b46, .b b47, .b b48, .v v49, .v v50])) (fun n51 n52 b53 b54 b55 b56 b57 v58 => K .ret (fillS X30o0e4 [jL w 0, .i n51, .i ((-1 : Int)), .i n52, .b b53, .b b54, .b b55, .b b56, .b b57, .v v58])) (fun n59 n60 b61 b62 b63 b64 b65 b66 => K .ret (fillS X30o0e5 [jL w 0, .i n59, .i ((-1 : Int)), .i n60, .b b61, .b b62, .b b63, .b b64, .b b65, .b b66])) (fun n67 n68 b69 v70 v71 v72 v73 v74 => K (.exit 0) (fillS X30o0e6 [jL w 0, .i n67, jI w 2, .i n68, .b b69, .v v70, .v v71, .v v72, .v v73, .v v74])) m (vI w 1) (vI w 3) (vV w 4) (vV w 5) (vV w 6) (vV w 7) (vV w 8) (vV w 9)
def ST30 : LT := [(0, sumT T30o0 (L30o0 KK))]
def b30o0 := bd c30 0
theorem q30o0 : Qp L30o0 C30 ST30 b30o0 1 T30o0 := fun m w K => by kernel_rfl
theorem o30o0 : SumOk C30 KK (sumT T30o0 (L30o0 KK)) (.loop b30o0) := loop_ok T30o0 L30o0 (sums_of (t := ST30) ⟨fun _ _ h => absurd h (by decide), trivial⟩) (fun _ _ => rfl) q30o0
theorem r30 : Rp (v30 (ta30 tu68)) C30 ST30 Try.f30 (sig 30) c30 A30 := fun w => by kernel_rfl
theorem ok30 : OkS sig (Gd G dep (dep 30)) 30 th30 := okM (v := v30) r30 Try.func30 rfl ⟨sum_in (c' := .loop b30o0) (by kernel_rfl) (o30o0), trivial⟩ te30 ue30
def C5 := mkC 5
def c5 := gc Try.f5
def ST5 : LT := []
theorem r5 : Rp (v5 (ta5 tu12 tu15 tu18 tu19 tu26 tu27 tu28 tu29 tu30)) C5 ST5 Try.f5 (sig 5) c5 A5 := fun w => by kernel_rfl
theorem ok5 : OkS sig (Gd G dep (dep 5)) 5 th5 := okM (v := v5) r5 Try.func5 rfl trivial te5 ue5
theorem fn_ok : ∀ f ∈ [49, 82, 50, 12, 54, 87, 55, 15, 83, 84, 51, 65, 53, 85, 94, 86, 52, 26, 76, 56, 57, 45, 95, 88, 58, 90, 66, 27, 67, 28, 59, 89, 60, 18, 68, 61, 19, 29, 30, 5], FnOk Try.prog sig f := fun f h => fnOk_of (List.all_eq_true.1 (show [49, 82, 50, 12, 54, 87, 55, 15, 83, 84, 51, 65, 53, 85, 94, 86, 52, 26, 76, 56, 57, 45, 95, 88, 58, 90, 66, 27, 67, 28, 59, 89, 60, 18, 68, 61, 19, 29, 30, 5].all (fnOkB Try.prog sig) = true by kernel_rfl) f h)
theorem ak {f : Nat} {th : List DV → Bool × List DV × List (List D)} (a : FnOk Try.prog sig f) (o : OkS sig (Gd G dep (dep f)) f th) : ∀ xs q, opt (th xs) = some q → FnOk Try.prog sig f ∧ evalBody Try.prog sig (Gd G dep (dep f)) KK f xs = some q := fun xs q h => ⟨a, o xs q h⟩
theorem all_ok : AllG (fun f xs q => FnOk Try.prog sig f ∧ evalBody Try.prog sig (Gd G dep (dep f)) KK f xs = some q) gT :=
  ⟨ak (fn_ok 49 (by simp)) ok49, ak (fn_ok 82 (by simp)) ok82, ak (fn_ok 50 (by simp)) ok50, ak (fn_ok 12 (by simp)) ok12, ak (fn_ok 54 (by simp)) ok54, ak (fn_ok 87 (by simp)) ok87, ak (fn_ok 55 (by simp)) ok55, ak (fn_ok 15 (by simp)) ok15, ak (fn_ok 83 (by simp)) ok83, ak (fn_ok 84 (by simp)) ok84, ak (fn_ok 51 (by simp)) ok51, ak (fn_ok 65 (by simp)) ok65, ak (fn_ok 53 (by simp)) ok53, ak (fn_ok 85 (by simp)) ok85, ak (fn_ok 94 (by simp)) ok94, ak (fn_ok 86 (by simp)) ok86, ak (fn_ok 52 (by simp)) ok52, ak (fn_ok 26 (by simp)) ok26, ak (fn_ok 76 (by simp)) ok76, ak (fn_ok 56 (by simp)) ok56, ak (fn_ok 57 (by simp)) ok57, ak (fn_ok 45 (by simp)) ok45, ak (fn_ok 95 (by simp)) ok95, ak (fn_ok 88 (by simp)) ok88, ak (fn_ok 58 (by simp)) ok58, ak (fn_ok 90 (by simp)) ok90, ak (fn_ok 66 (by simp)) ok66, ak (fn_ok 27 (by simp)) ok27, ak (fn_ok 67 (by simp)) ok67, ak (fn_ok 28 (by simp)) ok28, ak (fn_ok 59 (by simp)) ok59, ak (fn_ok 89 (by simp)) ok89, ak (fn_ok 60 (by simp)) ok60, ak (fn_ok 18 (by simp)) ok18, ak (fn_ok 68 (by simp)) ok68, ak (fn_ok 61 (by simp)) ok61, ak (fn_ok 19 (by simp)) ok19, ak (fn_ok 29 (by simp)) ok29, ak (fn_ok 30 (by simp)) ok30, ak (fn_ok 5 (by simp)) ok5, trivial⟩
theorem G_ok (f : Nat) : SpecOk Try.prog (sig f) (fun xs => opt (G f xs)) f := G_spec (by kernel_rfl) (allG_of all_ok) f
end
end Go.Den.L5
