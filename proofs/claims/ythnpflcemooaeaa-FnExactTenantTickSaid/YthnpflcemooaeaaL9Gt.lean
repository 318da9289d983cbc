/- The functions' table, and that each is what its twin says. Printed by tw.py. -/
import Derived.Test.YthnpflcemooaeaaL9Tw
import Derived.Test.YthnpflcemooaeaaProg
import Derived.KernelRfl
set_option linter.unusedVariables false
namespace Go.Den.L9
open Go Go.Proofs
noncomputable section
set_option maxRecDepth 100000
def U {α : Type} (a : α) : α := Classical.choose (⟨a, rfl⟩ : ∃ f, f = a)
theorem U_eq {α : Type} (a : α) : U a = a := Classical.choose_spec (⟨a, rfl⟩ : ∃ f, f = a)
abbrev dI : TV := .d (.i .i64)
abbrev dB : TV := .d .b
abbrev dS : TV := .d .s
abbrev dL : TV := .d .l
def OkS (sig : Nat → Sig) (g : Nat → List DV → Bool × List DV × List (List D)) (f : Nat) (th : List DV → Bool × List DV × List (List D)) : Prop := ∀ xs q, opt (th xs) = some q → evalBody Try.prog sig g KK f xs = some q
def tu144 := U t144
theorem te144 : t144 = t144 := rfl
def tw144 (vs : List Vr) : Rs := t144 (vS vs 0) (vI vs 1) (vI vs 2)
def tp144 (vs : List Vr) : Rs := tu144 (vS vs 0) (vI vs 1) (vI vs 2)
theorem tpw144 : tp144 = tw144 := funext fun vs => by unfold tp144 tw144; rw [show tu144 = t144 from U_eq _, te144]
def th144 := fun xs => gOf zr144 zo144 (argsT A144 tp144 xs)
def tu138 := U t138
theorem te138 : ta138 tu144 = t138 := (by rw [show tu144 = t144 from U_eq _] : ta138 tu144 = ta138 t144).trans rfl
def tw138 (vs : List Vr) : Rs := ta138 tu144 (vL vs 0) (vI vs 1)
def tp138 (vs : List Vr) : Rs := tu138 (vL vs 0) (vI vs 1)
theorem tpw138 : tp138 = tw138 := funext fun vs => by unfold tp138 tw138; rw [show tu138 = t138 from U_eq _, te138]
def th138 := fun xs => gOf zr138 zo138 (argsT A138 tp138 xs)
def tu122 := U t122
theorem te122 : ta122 tu138 = t122 := (by rw [show tu138 = t138 from U_eq _] : ta122 tu138 = ta122 t138).trans rfl
def tw122 (vs : List Vr) : Rs := ta122 tu138 (vI vs 0) (vI vs 1) (vI vs 2) (vI vs 3) (vI vs 4) (vS vs 5) (vL vs 6) (vI vs 7) (vI vs 8) (vI vs 9)
def tp122 (vs : List Vr) : Rs := tu122 (vI vs 0) (vI vs 1) (vI vs 2) (vI vs 3) (vI vs 4) (vS vs 5) (vL vs 6) (vI vs 7) (vI vs 8) (vI vs 9)
theorem tpw122 : tp122 = tw122 := funext fun vs => by unfold tp122 tw122; rw [show tu122 = t122 from U_eq _, te122]
def th122 := fun xs => gOf zr122 zo122 (argsT A122 tp122 xs)
def tu89 := U t89
theorem te89 : ta89 tu122 = t89 := (by rw [show tu122 = t122 from U_eq _] : ta89 tu122 = ta89 t122).trans rfl
def tw89 (vs : List Vr) : Rs := ta89 tu122 (vL vs 0) (vI vs 1)
def tp89 (vs : List Vr) : Rs := tu89 (vL vs 0) (vI vs 1)
theorem tpw89 : tp89 = tw89 := funext fun vs => by unfold tp89 tw89; rw [show tu89 = t89 from U_eq _, te89]
def th89 := fun xs => gOf zr89 zo89 (argsT A89 tp89 xs)
def tu53 := U t53
theorem te53 : ta53 tu89 = t53 := (by rw [show tu89 = t89 from U_eq _] : ta53 tu89 = ta53 t89).trans rfl
def tw53 (vs : List Vr) : Rs := ta53 tu89 (vI vs 0) (vL vs 1) (vI vs 2)
def tp53 (vs : List Vr) : Rs := tu53 (vI vs 0) (vL vs 1) (vI vs 2)
theorem tpw53 : tp53 = tw53 := funext fun vs => by unfold tp53 tw53; rw [show tu53 = t53 from U_eq _, te53]
def th53 := fun xs => gOf zr53 zo53 (argsT A53 tp53 xs)
def tu54 := U t54
theorem te54 : t54 = t54 := rfl
def tw54 (vs : List Vr) : Rs := t54 (vL vs 0) (vI vs 1)
def tp54 (vs : List Vr) : Rs := tu54 (vL vs 0) (vI vs 1)
theorem tpw54 : tp54 = tw54 := funext fun vs => by unfold tp54 tw54; rw [show tu54 = t54 from U_eq _, te54]
def th54 := fun xs => gOf zr54 zo54 (argsT A54 tp54 xs)
def tu123 := U t123
theorem te123 : t123 = t123 := rfl
def tw123 (vs : List Vr) : Rs := t123 (vI vs 0) (vS vs 1) (vI vs 2)
def tp123 (vs : List Vr) : Rs := tu123 (vI vs 0) (vS vs 1) (vI vs 2)
theorem tpw123 : tp123 = tw123 := funext fun vs => by unfold tp123 tw123; rw [show tu123 = t123 from U_eq _, te123]
def th123 := fun xs => gOf zr123 zo123 (argsT A123 tp123 xs)
def tu90 := U t90
theorem te90 : ta90 tu123 = t90 := (by rw [show tu123 = t123 from U_eq _] : ta90 tu123 = ta90 t123).trans rfl
def tw90 (vs : List Vr) : Rs := ta90 tu123 (vI vs 0) (vI vs 1) (vI vs 2) (vI vs 3) (vS vs 4) (vI vs 5)
def tp90 (vs : List Vr) : Rs := tu90 (vI vs 0) (vI vs 1) (vI vs 2) (vI vs 3) (vS vs 4) (vI vs 5)
theorem tpw90 : tp90 = tw90 := funext fun vs => by unfold tp90 tw90; rw [show tu90 = t90 from U_eq _, te90]
def th90 := fun xs => gOf zr90 zo90 (argsT A90 tp90 xs)
def tu55 := U t55
theorem te55 : ta55 tu90 = t55 := (by rw [show tu90 = t90 from U_eq _] : ta55 tu90 = ta55 t90).trans rfl
def tw55 (vs : List Vr) : Rs := ta55 tu90 (vL vs 0) (vI vs 1)
def tp55 (vs : List Vr) : Rs := tu55 (vL vs 0) (vI vs 1)
theorem tpw55 : tp55 = tw55 := funext fun vs => by unfold tp55 tw55; rw [show tu55 = t55 from U_eq _, te55]
def th55 := fun xs => gOf zr55 zo55 (argsT A55 tp55 xs)
def tu22 := U t22
theorem te22 : ta22 tu53 tu54 tu55 = t22 := (by rw [show tu53 = t53 from U_eq _, show tu54 = t54 from U_eq _, show tu55 = t55 from U_eq _] : ta22 tu53 tu54 tu55 = ta22 t53 t54 t55).trans rfl
def tw22 (vs : List Vr) : Rs := ta22 tu53 tu54 tu55 (vI vs 0) (vL vs 1) (vI vs 2) (vL vs 3) (vL vs 4) (vI vs 5)
def tp22 (vs : List Vr) : Rs := tu22 (vI vs 0) (vL vs 1) (vI vs 2) (vL vs 3) (vL vs 4) (vI vs 5)
theorem tpw22 : tp22 = tw22 := funext fun vs => by unfold tp22 tw22; rw [show tu22 = t22 from U_eq _, te22]
def th22 := fun xs => gOf zr22 zo22 (argsT A22 tp22 xs)
def tu145 := U t145
theorem te145 : t145 = t145 := rfl
def tw145 (vs : List Vr) : Rs := t145 (vS vs 0) (vI vs 1)
def tp145 (vs : List Vr) : Rs := tu145 (vS vs 0) (vI vs 1)
theorem tpw145 : tp145 = tw145 := funext fun vs => by unfold tp145 tw145; rw [show tu145 = t145 from U_eq _, te145]
def th145 := fun xs => gOf zr145 zo145 (argsT A145 tp145 xs)
def tu140 := U t140
theorem te140 : ta140 tu145 = t140 := (by rw [show tu145 = t145 from U_eq _] : ta140 tu145 = ta140 t145).trans rfl
def tw140 (vs : List Vr) : Rs := ta140 tu145 (vL vs 0)
def tp140 (vs : List Vr) : Rs := tu140 (vL vs 0)
theorem tpw140 : tp140 = tw140 := funext fun vs => by unfold tp140 tw140; rw [show tu140 = t140 from U_eq _, te140]
def th140 := fun xs => gOf zr140 zo140 (argsT A140 tp140 xs)
def tu128 := U t128
theorem te128 : ta128 tu140 = t128 := (by rw [show tu140 = t140 from U_eq _] : ta128 tu140 = ta128 t140).trans rfl
def tw128 (vs : List Vr) : Rs := ta128 tu140 (vI vs 0) (vI vs 1) (vI vs 2) (vI vs 3) (vI vs 4) (vS vs 5) (vL vs 6) (vI vs 7) (vI vs 8)
def tp128 (vs : List Vr) : Rs := tu128 (vI vs 0) (vI vs 1) (vI vs 2) (vI vs 3) (vI vs 4) (vS vs 5) (vL vs 6) (vI vs 7) (vI vs 8)
theorem tpw128 : tp128 = tw128 := funext fun vs => by unfold tp128 tw128; rw [show tu128 = t128 from U_eq _, te128]
def th128 := fun xs => gOf zr128 zo128 (argsT A128 tp128 xs)
def tu96 := U t96
theorem te96 : ta96 tu128 = t96 := (by rw [show tu128 = t128 from U_eq _] : ta96 tu128 = ta96 t128).trans rfl
def tw96 (vs : List Vr) : Rs := ta96 tu128 (vL vs 0)
def tp96 (vs : List Vr) : Rs := tu96 (vL vs 0)
theorem tpw96 : tp96 = tw96 := funext fun vs => by unfold tp96 tw96; rw [show tu96 = t96 from U_eq _, te96]
def th96 := fun xs => gOf zr96 zo96 (argsT A96 tp96 xs)
def tu60 := U t60
theorem te60 : ta60 tu96 = t60 := (by rw [show tu96 = t96 from U_eq _] : ta60 tu96 = ta60 t96).trans rfl
def tw60 (vs : List Vr) : Rs := ta60 tu96 (vI vs 0) (vL vs 1)
def tp60 (vs : List Vr) : Rs := tu60 (vI vs 0) (vL vs 1)
theorem tpw60 : tp60 = tw60 := funext fun vs => by unfold tp60 tw60; rw [show tu60 = t60 from U_eq _, te60]
def th60 := fun xs => gOf zr60 zo60 (argsT A60 tp60 xs)
def tu97 := U t97
theorem te97 : t97 = t97 := rfl
def tw97 (vs : List Vr) : Rs := t97 (vI vs 0) (vI vs 1) (vI vs 2) (vI vs 3) (vI vs 4)
def tp97 (vs : List Vr) : Rs := tu97 (vI vs 0) (vI vs 1) (vI vs 2) (vI vs 3) (vI vs 4)
theorem tpw97 : tp97 = tw97 := funext fun vs => by unfold tp97 tw97; rw [show tu97 = t97 from U_eq _, te97]
def th97 := fun xs => gOf zr97 zo97 (argsT A97 tp97 xs)
def tu61 := U t61
theorem te61 : ta61 tu97 = t61 := (by rw [show tu97 = t97 from U_eq _] : ta61 tu97 = ta61 t97).trans rfl
def tw61 (vs : List Vr) : Rs := ta61 tu97 (vL vs 0)
def tp61 (vs : List Vr) : Rs := tu61 (vL vs 0)
theorem tpw61 : tp61 = tw61 := funext fun vs => by unfold tp61 tw61; rw [show tu61 = t61 from U_eq _, te61]
def th61 := fun xs => gOf zr61 zo61 (argsT A61 tp61 xs)
def tu129 := U t129
theorem te129 : t129 = t129 := rfl
def tw129 (vs : List Vr) : Rs := t129 (vI vs 0) (vS vs 1)
def tp129 (vs : List Vr) : Rs := tu129 (vI vs 0) (vS vs 1)
theorem tpw129 : tp129 = tw129 := funext fun vs => by unfold tp129 tw129; rw [show tu129 = t129 from U_eq _, te129]
def th129 := fun xs => gOf zr129 zo129 (argsT A129 tp129 xs)
def tu98 := U t98
theorem te98 : ta98 tu129 = t98 := (by rw [show tu129 = t129 from U_eq _] : ta98 tu129 = ta98 t129).trans rfl
def tw98 (vs : List Vr) : Rs := ta98 tu129 (vI vs 0) (vI vs 1) (vI vs 2) (vI vs 3) (vS vs 4)
def tp98 (vs : List Vr) : Rs := tu98 (vI vs 0) (vI vs 1) (vI vs 2) (vI vs 3) (vS vs 4)
theorem tpw98 : tp98 = tw98 := funext fun vs => by unfold tp98 tw98; rw [show tu98 = t98 from U_eq _, te98]
def th98 := fun xs => gOf zr98 zo98 (argsT A98 tp98 xs)
def tu62 := U t62
theorem te62 : ta62 tu98 = t62 := (by rw [show tu98 = t98 from U_eq _] : ta62 tu98 = ta62 t98).trans rfl
def tw62 (vs : List Vr) : Rs := ta62 tu98 (vL vs 0)
def tp62 (vs : List Vr) : Rs := tu62 (vL vs 0)
theorem tpw62 : tp62 = tw62 := funext fun vs => by unfold tp62 tw62; rw [show tu62 = t62 from U_eq _, te62]
def th62 := fun xs => gOf zr62 zo62 (argsT A62 tp62 xs)
def tu24 := U t24
theorem te24 : ta24 tu60 tu61 tu62 = t24 := (by rw [show tu60 = t60 from U_eq _, show tu61 = t61 from U_eq _, show tu62 = t62 from U_eq _] : ta24 tu60 tu61 tu62 = ta24 t60 t61 t62).trans rfl
def tw24 (vs : List Vr) : Rs := ta24 tu60 tu61 tu62 (vI vs 0) (vL vs 1) (vI vs 2) (vL vs 3) (vL vs 4)
def tp24 (vs : List Vr) : Rs := tu24 (vI vs 0) (vL vs 1) (vI vs 2) (vL vs 3) (vL vs 4)
theorem tpw24 : tp24 = tw24 := funext fun vs => by unfold tp24 tw24; rw [show tu24 = t24 from U_eq _, te24]
def th24 := fun xs => gOf zr24 zo24 (argsT A24 tp24 xs)
def tu57 := U t57
theorem te57 : t57 = t57 := rfl
def tw57 (vs : List Vr) : Rs := t57 (vI vs 0) (vI vs 1) (vI vs 2)
def tp57 (vs : List Vr) : Rs := tu57 (vI vs 0) (vI vs 1) (vI vs 2)
theorem tpw57 : tp57 = tw57 := funext fun vs => by unfold tp57 tw57; rw [show tu57 = t57 from U_eq _, te57]
def th57 := fun xs => gOf zr57 zo57 (argsT A57 tp57 xs)
def tu139 := U t139
theorem te139 : t139 = t139 := rfl
def tw139 (vs : List Vr) : Rs := t139 (vI vs 0)
def tp139 (vs : List Vr) : Rs := tu139 (vI vs 0)
theorem tpw139 : tp139 = tw139 := funext fun vs => by unfold tp139 tw139; rw [show tu139 = t139 from U_eq _, te139]
def th139 := fun xs => gOf zr139 zo139 (argsT A139 tp139 xs)
def tu124 := U t124
theorem te124 : ta124 tu57 tu139 = t124 := (by rw [show tu57 = t57 from U_eq _, show tu139 = t139 from U_eq _] : ta124 tu57 tu139 = ta124 t57 t139).trans rfl
def tw124 (vs : List Vr) : Rs := ta124 tu57 tu139 (vS vs 0)
def tp124 (vs : List Vr) : Rs := tu124 (vS vs 0)
theorem tpw124 : tp124 = tw124 := funext fun vs => by unfold tp124 tw124; rw [show tu124 = t124 from U_eq _, te124]
def th124 := fun xs => gOf zr124 zo124 (argsT A124 tp124 xs)
def tu125 := U t125
theorem te125 : ta125 tu57 tu139 = t125 := (by rw [show tu57 = t57 from U_eq _, show tu139 = t139 from U_eq _] : ta125 tu57 tu139 = ta125 t57 t139).trans rfl
def tw125 (vs : List Vr) : Rs := ta125 tu57 tu139 (vS vs 0)
def tp125 (vs : List Vr) : Rs := tu125 (vS vs 0)
theorem tpw125 : tp125 = tw125 := funext fun vs => by unfold tp125 tw125; rw [show tu125 = t125 from U_eq _, te125]
def th125 := fun xs => gOf zr125 zo125 (argsT A125 tp125 xs)
def tu126 := U t126
theorem te126 : t126 = t126 := rfl
def tw126 (vs : List Vr) : Rs := t126 (vI vs 0) (vL vs 1) (vI vs 2)
def tp126 (vs : List Vr) : Rs := tu126 (vI vs 0) (vL vs 1) (vI vs 2)
theorem tpw126 : tp126 = tw126 := funext fun vs => by unfold tp126 tw126; rw [show tu126 = t126 from U_eq _, te126]
def th126 := fun xs => gOf zr126 zo126 (argsT A126 tp126 xs)
def tu91 := U t91
theorem te91 : ta91 tu57 tu124 tu125 tu126 = t91 := (by rw [show tu57 = t57 from U_eq _, show tu124 = t124 from U_eq _, show tu125 = t125 from U_eq _, show tu126 = t126 from U_eq _] : ta91 tu57 tu124 tu125 tu126 = ta91 t57 t124 t125 t126).trans rfl
def tw91 (vs : List Vr) : Rs := ta91 tu57 tu124 tu125 tu126 (vI vs 0) (vL vs 1) (vI vs 2) (vI vs 3) (vI vs 4) (vI vs 5) (vI vs 6) (vS vs 7) (vL vs 8) (vI vs 9) (vI vs 10)
def tp91 (vs : List Vr) : Rs := tu91 (vI vs 0) (vL vs 1) (vI vs 2) (vI vs 3) (vI vs 4) (vI vs 5) (vI vs 6) (vS vs 7) (vL vs 8) (vI vs 9) (vI vs 10)
theorem tpw91 : tp91 = tw91 := funext fun vs => by unfold tp91 tw91; rw [show tu91 = t91 from U_eq _, te91]
def th91 := fun xs => gOf zr91 zo91 (argsT A91 tp91 xs)
def tu92 := U t92
theorem te92 : ta92 tu126 = t92 := (by rw [show tu126 = t126 from U_eq _] : ta92 tu126 = ta92 t126).trans rfl
def tw92 (vs : List Vr) : Rs := ta92 tu126 (vI vs 0) (vL vs 1) (vI vs 2)
def tp92 (vs : List Vr) : Rs := tu92 (vI vs 0) (vL vs 1) (vI vs 2)
theorem tpw92 : tp92 = tw92 := funext fun vs => by unfold tp92 tw92; rw [show tu92 = t92 from U_eq _, te92]
def th92 := fun xs => gOf zr92 zo92 (argsT A92 tp92 xs)
def tu93 := U t93
theorem te93 : t93 = t93 := rfl
def tw93 (vs : List Vr) : Rs := t93 (vI vs 0) (vL vs 1) (vI vs 2)
def tp93 (vs : List Vr) : Rs := tu93 (vI vs 0) (vL vs 1) (vI vs 2)
theorem tpw93 : tp93 = tw93 := funext fun vs => by unfold tp93 tw93; rw [show tu93 = t93 from U_eq _, te93]
def th93 := fun xs => gOf zr93 zo93 (argsT A93 tp93 xs)
def tu94 := U t94
theorem te94 : t94 = t94 := rfl
def tw94 (vs : List Vr) : Rs := t94 (vI vs 0) (vL vs 1)
def tp94 (vs : List Vr) : Rs := tu94 (vI vs 0) (vL vs 1)
theorem tpw94 : tp94 = tw94 := funext fun vs => by unfold tp94 tw94; rw [show tu94 = t94 from U_eq _, te94]
def th94 := fun xs => gOf zr94 zo94 (argsT A94 tp94 xs)
def tu127 := U t127
theorem te127 : ta127 tu92 = t127 := (by rw [show tu92 = t92 from U_eq _] : ta127 tu92 = ta127 t92).trans rfl
def tw127 (vs : List Vr) : Rs := ta127 tu92 (vI vs 0) (vL vs 1) (vI vs 2)
def tp127 (vs : List Vr) : Rs := tu127 (vI vs 0) (vL vs 1) (vI vs 2)
theorem tpw127 : tp127 = tw127 := funext fun vs => by unfold tp127 tw127; rw [show tu127 = t127 from U_eq _, te127]
def th127 := fun xs => gOf zr127 zo127 (argsT A127 tp127 xs)
def tu95 := U t95
theorem te95 : ta95 tu127 = t95 := (by rw [show tu127 = t127 from U_eq _] : ta95 tu127 = ta95 t127).trans rfl
def tw95 (vs : List Vr) : Rs := ta95 tu127 (vI vs 0) (vL vs 1)
def tp95 (vs : List Vr) : Rs := tu95 (vI vs 0) (vL vs 1)
theorem tpw95 : tp95 = tw95 := funext fun vs => by unfold tp95 tw95; rw [show tu95 = t95 from U_eq _, te95]
def th95 := fun xs => gOf zr95 zo95 (argsT A95 tp95 xs)
def tu56 := U t56
theorem te56 : ta56 tu57 tu91 tu92 tu93 tu94 tu95 = t56 := (by rw [show tu57 = t57 from U_eq _, show tu91 = t91 from U_eq _, show tu92 = t92 from U_eq _, show tu93 = t93 from U_eq _, show tu94 = t94 from U_eq _, show tu95 = t95 from U_eq _] : ta56 tu57 tu91 tu92 tu93 tu94 tu95 = ta56 t57 t91 t92 t93 t94 t95).trans rfl
def tw56 (vs : List Vr) : Rs := ta56 tu57 tu91 tu92 tu93 tu94 tu95 (vI vs 0) (vL vs 1)
def tp56 (vs : List Vr) : Rs := tu56 (vI vs 0) (vL vs 1)
theorem tpw56 : tp56 = tw56 := funext fun vs => by unfold tp56 tw56; rw [show tu56 = t56 from U_eq _, te56]
def th56 := fun xs => gOf zr56 zo56 (argsT A56 tp56 xs)
def tu58 := U t58
theorem te58 : ta58 tu57 = t58 := (by rw [show tu57 = t57 from U_eq _] : ta58 tu57 = ta58 t57).trans rfl
def tw58 (vs : List Vr) : Rs := ta58 tu57 (vL vs 0)
def tp58 (vs : List Vr) : Rs := tu58 (vL vs 0)
theorem tpw58 : tp58 = tw58 := funext fun vs => by unfold tp58 tw58; rw [show tu58 = t58 from U_eq _, te58]
def th58 := fun xs => gOf zr58 zo58 (argsT A58 tp58 xs)
def tu59 := U t59
theorem te59 : ta59 tu57 = t59 := (by rw [show tu57 = t57 from U_eq _] : ta59 tu57 = ta59 t57).trans rfl
def tw59 (vs : List Vr) : Rs := ta59 tu57 (vI vs 0) (vS vs 1)
def tp59 (vs : List Vr) : Rs := tu59 (vI vs 0) (vS vs 1)
theorem tpw59 : tp59 = tw59 := funext fun vs => by unfold tp59 tw59; rw [show tu59 = t59 from U_eq _, te59]
def th59 := fun xs => gOf zr59 zo59 (argsT A59 tp59 xs)
def tu23 := U t23
theorem te23 : ta23 tu56 tu57 tu58 tu59 = t23 := (by rw [show tu56 = t56 from U_eq _, show tu57 = t57 from U_eq _, show tu58 = t58 from U_eq _, show tu59 = t59 from U_eq _] : ta23 tu56 tu57 tu58 tu59 = ta23 t56 t57 t58 t59).trans rfl
def tw23 (vs : List Vr) : Rs := ta23 tu56 tu57 tu58 tu59 (vI vs 0) (vL vs 1) (vI vs 2) (vL vs 3) (vL vs 4)
def tp23 (vs : List Vr) : Rs := tu23 (vI vs 0) (vL vs 1) (vI vs 2) (vL vs 3) (vL vs 4)
theorem tpw23 : tp23 = tw23 := funext fun vs => by unfold tp23 tw23; rw [show tu23 = t23 from U_eq _, te23]
def th23 := fun xs => gOf zr23 zo23 (argsT A23 tp23 xs)
def tu111 := U t111
theorem te111 : t111 = t111 := rfl
def tw111 (vs : List Vr) : Rs := t111 (vI vs 0) (vL vs 1)
def tp111 (vs : List Vr) : Rs := tu111 (vI vs 0) (vL vs 1)
theorem tpw111 : tp111 = tw111 := funext fun vs => by unfold tp111 tw111; rw [show tu111 = t111 from U_eq _, te111]
def th111 := fun xs => gOf zr111 zo111 (argsT A111 tp111 xs)
def tu73 := U t73
theorem te73 : ta73 tu111 = t73 := (by rw [show tu111 = t111 from U_eq _] : ta73 tu111 = ta73 t111).trans rfl
def tw73 (vs : List Vr) : Rs := ta73 tu111 (vI vs 0) (vL vs 1) (vI vs 2) (vL vs 3) (vL vs 4)
def tp73 (vs : List Vr) : Rs := tu73 (vI vs 0) (vL vs 1) (vI vs 2) (vL vs 3) (vL vs 4)
theorem tpw73 : tp73 = tw73 := funext fun vs => by unfold tp73 tw73; rw [show tu73 = t73 from U_eq _, te73]
def th73 := fun xs => gOf zr73 zo73 (argsT A73 tp73 xs)
def tu74 := U t74
theorem te74 : t74 = t74 := rfl
def tw74 (vs : List Vr) : Rs := t74 (vI vs 0)
def tp74 (vs : List Vr) : Rs := tu74 (vI vs 0)
theorem tpw74 : tp74 = tw74 := funext fun vs => by unfold tp74 tw74; rw [show tu74 = t74 from U_eq _, te74]
def th74 := fun xs => gOf zr74 zo74 (argsT A74 tp74 xs)
def tu34 := U t34
theorem te34 : ta34 tu23 tu73 tu74 = t34 := (by rw [show tu23 = t23 from U_eq _, show tu73 = t73 from U_eq _, show tu74 = t74 from U_eq _] : ta34 tu23 tu73 tu74 = ta34 t23 t73 t74).trans rfl
def tw34 (vs : List Vr) : Rs := ta34 tu23 tu73 tu74 (vI vs 0) (vL vs 1) (vI vs 2) (vL vs 3) (vL vs 4)
def tp34 (vs : List Vr) : Rs := tu34 (vI vs 0) (vL vs 1) (vI vs 2) (vL vs 3) (vL vs 4)
theorem tpw34 : tp34 = tw34 := funext fun vs => by unfold tp34 tw34; rw [show tu34 = t34 from U_eq _, te34]
def th34 := fun xs => gOf zr34 zo34 (argsT A34 tp34 xs)
def tu63 := U t63
theorem te63 : t63 = t63 := rfl
def tw63 (vs : List Vr) : Rs := t63 (vI vs 0) (vI vs 1) (vI vs 2)
def tp63 (vs : List Vr) : Rs := tu63 (vI vs 0) (vI vs 1) (vI vs 2)
theorem tpw63 : tp63 = tw63 := funext fun vs => by unfold tp63 tw63; rw [show tu63 = t63 from U_eq _, te63]
def th63 := fun xs => gOf zr63 zo63 (argsT A63 tp63 xs)
def tu64 := U t64
theorem te64 : ta64 tu63 = t64 := (by rw [show tu63 = t63 from U_eq _] : ta64 tu63 = ta64 t63).trans rfl
def tw64 (vs : List Vr) : Rs := ta64 tu63 (vI vs 0) (vS vs 1)
def tp64 (vs : List Vr) : Rs := tu64 (vI vs 0) (vS vs 1)
theorem tpw64 : tp64 = tw64 := funext fun vs => by unfold tp64 tw64; rw [show tu64 = t64 from U_eq _, te64]
def th64 := fun xs => gOf zr64 zo64 (argsT A64 tp64 xs)
def tu65 := U t65
theorem te65 : ta65 tu63 = t65 := (by rw [show tu63 = t63 from U_eq _] : ta65 tu63 = ta65 t63).trans rfl
def tw65 (vs : List Vr) : Rs := ta65 tu63 (vL vs 0)
def tp65 (vs : List Vr) : Rs := tu65 (vL vs 0)
theorem tpw65 : tp65 = tw65 := funext fun vs => by unfold tp65 tw65; rw [show tu65 = t65 from U_eq _, te65]
def th65 := fun xs => gOf zr65 zo65 (argsT A65 tp65 xs)
def tu141 := U t141
theorem te141 : t141 = t141 := rfl
def tw141 (vs : List Vr) : Rs := t141 (vI vs 0)
def tp141 (vs : List Vr) : Rs := tu141 (vI vs 0)
theorem tpw141 : tp141 = tw141 := funext fun vs => by unfold tp141 tw141; rw [show tu141 = t141 from U_eq _, te141]
def th141 := fun xs => gOf zr141 zo141 (argsT A141 tp141 xs)
def tu130 := U t130
theorem te130 : ta130 tu63 tu141 = t130 := (by rw [show tu63 = t63 from U_eq _, show tu141 = t141 from U_eq _] : ta130 tu63 tu141 = ta130 t63 t141).trans rfl
def tw130 (vs : List Vr) : Rs := ta130 tu63 tu141 (vS vs 0)
def tp130 (vs : List Vr) : Rs := tu130 (vS vs 0)
theorem tpw130 : tp130 = tw130 := funext fun vs => by unfold tp130 tw130; rw [show tu130 = t130 from U_eq _, te130]
def th130 := fun xs => gOf zr130 zo130 (argsT A130 tp130 xs)
def tu142 := U t142
theorem te142 : ta142 tu63 tu141 = t142 := (by rw [show tu63 = t63 from U_eq _, show tu141 = t141 from U_eq _] : ta142 tu63 tu141 = ta142 t63 t141).trans rfl
def tw142 (vs : List Vr) : Rs := ta142 tu63 tu141 (vS vs 0)
def tp142 (vs : List Vr) : Rs := tu142 (vS vs 0)
theorem tpw142 : tp142 = tw142 := funext fun vs => by unfold tp142 tw142; rw [show tu142 = t142 from U_eq _, te142]
def th142 := fun xs => gOf zr142 zo142 (argsT A142 tp142 xs)
def tu132 := U t132
theorem te132 : t132 = t132 := rfl
def tw132 (vs : List Vr) : Rs := t132 (vI vs 0) (vL vs 1) (vI vs 2)
def tp132 (vs : List Vr) : Rs := tu132 (vI vs 0) (vL vs 1) (vI vs 2)
theorem tpw132 : tp132 = tw132 := funext fun vs => by unfold tp132 tw132; rw [show tu132 = t132 from U_eq _, te132]
def th132 := fun xs => gOf zr132 zo132 (argsT A132 tp132 xs)
def tu131 := U t131
theorem te131 : ta131 tu132 tu142 = t131 := (by rw [show tu132 = t132 from U_eq _, show tu142 = t142 from U_eq _] : ta131 tu132 tu142 = ta131 t132 t142).trans rfl
def tw131 (vs : List Vr) : Rs := ta131 tu132 tu142 (vI vs 0) (vL vs 1) (vI vs 2) (vI vs 3) (vI vs 4) (vI vs 5) (vI vs 6) (vS vs 7) (vL vs 8) (vI vs 9) (vI vs 10)
def tp131 (vs : List Vr) : Rs := tu131 (vI vs 0) (vL vs 1) (vI vs 2) (vI vs 3) (vI vs 4) (vI vs 5) (vI vs 6) (vS vs 7) (vL vs 8) (vI vs 9) (vI vs 10)
theorem tpw131 : tp131 = tw131 := funext fun vs => by unfold tp131 tw131; rw [show tu131 = t131 from U_eq _, te131]
def th131 := fun xs => gOf zr131 zo131 (argsT A131 tp131 xs)
def tu99 := U t99
theorem te99 : ta99 tu63 tu130 tu131 = t99 := (by rw [show tu63 = t63 from U_eq _, show tu130 = t130 from U_eq _, show tu131 = t131 from U_eq _] : ta99 tu63 tu130 tu131 = ta99 t63 t130 t131).trans rfl
def tw99 (vs : List Vr) : Rs := ta99 tu63 tu130 tu131 (vI vs 0) (vL vs 1) (vI vs 2) (vI vs 3) (vI vs 4) (vI vs 5) (vI vs 6) (vS vs 7) (vL vs 8) (vI vs 9) (vI vs 10)
def tp99 (vs : List Vr) : Rs := tu99 (vI vs 0) (vL vs 1) (vI vs 2) (vI vs 3) (vI vs 4) (vI vs 5) (vI vs 6) (vS vs 7) (vL vs 8) (vI vs 9) (vI vs 10)
theorem tpw99 : tp99 = tw99 := funext fun vs => by unfold tp99 tw99; rw [show tu99 = t99 from U_eq _, te99]
def th99 := fun xs => gOf zr99 zo99 (argsT A99 tp99 xs)
def tu133 := U t133
theorem te133 : t133 = t133 := rfl
def tw133 (vs : List Vr) : Rs := t133 (vL vs 0) (vI vs 1)
def tp133 (vs : List Vr) : Rs := tu133 (vL vs 0) (vI vs 1)
theorem tpw133 : tp133 = tw133 := funext fun vs => by unfold tp133 tw133; rw [show tu133 = t133 from U_eq _, te133]
def th133 := fun xs => gOf zr133 zo133 (argsT A133 tp133 xs)
def tu101 := U t101
theorem te101 : ta101 tu133 = t101 := (by rw [show tu133 = t133 from U_eq _] : ta101 tu133 = ta101 t133).trans rfl
def tw101 (vs : List Vr) : Rs := ta101 tu133 (vL vs 0) (vI vs 1)
def tp101 (vs : List Vr) : Rs := tu101 (vL vs 0) (vI vs 1)
theorem tpw101 : tp101 = tw101 := funext fun vs => by unfold tp101 tw101; rw [show tu101 = t101 from U_eq _, te101]
def th101 := fun xs => gOf zr101 zo101 (argsT A101 tp101 xs)
def tu100 := U t100
theorem te100 : ta100 tu101 tu132 = t100 := (by rw [show tu101 = t101 from U_eq _, show tu132 = t132 from U_eq _] : ta100 tu101 tu132 = ta100 t101 t132).trans rfl
def tw100 (vs : List Vr) : Rs := ta100 tu101 tu132 (vI vs 0) (vL vs 1) (vI vs 2)
def tp100 (vs : List Vr) : Rs := tu100 (vI vs 0) (vL vs 1) (vI vs 2)
theorem tpw100 : tp100 = tw100 := funext fun vs => by unfold tp100 tw100; rw [show tu100 = t100 from U_eq _, te100]
def th100 := fun xs => gOf zr100 zo100 (argsT A100 tp100 xs)
def tu102 := U t102
theorem te102 : t102 = t102 := rfl
def tw102 (vs : List Vr) : Rs := t102 (vI vs 0) (vL vs 1) (vI vs 2)
def tp102 (vs : List Vr) : Rs := tu102 (vI vs 0) (vL vs 1) (vI vs 2)
theorem tpw102 : tp102 = tw102 := funext fun vs => by unfold tp102 tw102; rw [show tu102 = t102 from U_eq _, te102]
def th102 := fun xs => gOf zr102 zo102 (argsT A102 tp102 xs)
def tu103 := U t103
theorem te103 : t103 = t103 := rfl
def tw103 (vs : List Vr) : Rs := t103 (vI vs 0) (vL vs 1)
def tp103 (vs : List Vr) : Rs := tu103 (vI vs 0) (vL vs 1)
theorem tpw103 : tp103 = tw103 := funext fun vs => by unfold tp103 tw103; rw [show tu103 = t103 from U_eq _, te103]
def th103 := fun xs => gOf zr103 zo103 (argsT A103 tp103 xs)
def tu135 := U t135
theorem te135 : ta135 tu100 tu132 = t135 := (by rw [show tu100 = t100 from U_eq _, show tu132 = t132 from U_eq _] : ta135 tu100 tu132 = ta135 t100 t132).trans rfl
def tw135 (vs : List Vr) : Rs := ta135 tu100 tu132 (vI vs 0) (vL vs 1) (vI vs 2)
def tp135 (vs : List Vr) : Rs := tu135 (vI vs 0) (vL vs 1) (vI vs 2)
theorem tpw135 : tp135 = tw135 := funext fun vs => by unfold tp135 tw135; rw [show tu135 = t135 from U_eq _, te135]
def th135 := fun xs => gOf zr135 zo135 (argsT A135 tp135 xs)
def tu105 := U t105
theorem te105 : ta105 tu135 = t105 := (by rw [show tu135 = t135 from U_eq _] : ta105 tu135 = ta105 t135).trans rfl
def tw105 (vs : List Vr) : Rs := ta105 tu135 (vI vs 0) (vL vs 1) (vI vs 2) (vI vs 3) (vI vs 4) (vI vs 5) (vI vs 6) (vS vs 7) (vL vs 8) (vI vs 9) (vI vs 10)
def tp105 (vs : List Vr) : Rs := tu105 (vI vs 0) (vL vs 1) (vI vs 2) (vI vs 3) (vI vs 4) (vI vs 5) (vI vs 6) (vS vs 7) (vL vs 8) (vI vs 9) (vI vs 10)
theorem tpw105 : tp105 = tw105 := funext fun vs => by unfold tp105 tw105; rw [show tu105 = t105 from U_eq _, te105]
def th105 := fun xs => gOf zr105 zo105 (argsT A105 tp105 xs)
def tu134 := U t134
theorem te134 : ta134 tu105 = t134 := (by rw [show tu105 = t105 from U_eq _] : ta134 tu105 = ta134 t105).trans rfl
def tw134 (vs : List Vr) : Rs := ta134 tu105 (vL vs 0) (vI vs 1) (vL vs 2)
def tp134 (vs : List Vr) : Rs := tu134 (vL vs 0) (vI vs 1) (vL vs 2)
theorem tpw134 : tp134 = tw134 := funext fun vs => by unfold tp134 tw134; rw [show tu134 = t134 from U_eq _, te134]
def th134 := fun xs => gOf zr134 zo134 (argsT A134 tp134 xs)
def tu104 := U t104
theorem te104 : ta104 tu134 = t104 := (by rw [show tu134 = t134 from U_eq _] : ta104 tu134 = ta104 t134).trans rfl
def tw104 (vs : List Vr) : Rs := ta104 tu134 (vL vs 0) (vI vs 1) (vL vs 2)
def tp104 (vs : List Vr) : Rs := tu104 (vL vs 0) (vI vs 1) (vL vs 2)
theorem tpw104 : tp104 = tw104 := funext fun vs => by unfold tp104 tw104; rw [show tu104 = t104 from U_eq _, te104]
def th104 := fun xs => gOf zr104 zo104 (argsT A104 tp104 xs)
def tu66 := U t66
theorem te66 : ta66 tu63 tu99 tu100 tu101 tu102 tu103 tu104 = t66 := (by rw [show tu63 = t63 from U_eq _, show tu99 = t99 from U_eq _, show tu100 = t100 from U_eq _, show tu101 = t101 from U_eq _, show tu102 = t102 from U_eq _, show tu103 = t103 from U_eq _, show tu104 = t104 from U_eq _] : ta66 tu63 tu99 tu100 tu101 tu102 tu103 tu104 = ta66 t63 t99 t100 t101 t102 t103 t104).trans rfl
def tw66 (vs : List Vr) : Rs := ta66 tu63 tu99 tu100 tu101 tu102 tu103 tu104 (vI vs 0) (vL vs 1)
def tp66 (vs : List Vr) : Rs := tu66 (vI vs 0) (vL vs 1)
theorem tpw66 : tp66 = tw66 := funext fun vs => by unfold tp66 tw66; rw [show tu66 = t66 from U_eq _, te66]
def th66 := fun xs => gOf zr66 zo66 (argsT A66 tp66 xs)
def tu25 := U t25
theorem te25 : ta25 tu63 tu64 tu65 tu66 = t25 := (by rw [show tu63 = t63 from U_eq _, show tu64 = t64 from U_eq _, show tu65 = t65 from U_eq _, show tu66 = t66 from U_eq _] : ta25 tu63 tu64 tu65 tu66 = ta25 t63 t64 t65 t66).trans rfl
def tw25 (vs : List Vr) : Rs := ta25 tu63 tu64 tu65 tu66 (vI vs 0) (vL vs 1) (vI vs 2) (vL vs 3) (vL vs 4)
def tp25 (vs : List Vr) : Rs := tu25 (vI vs 0) (vL vs 1) (vI vs 2) (vL vs 3) (vL vs 4)
theorem tpw25 : tp25 = tw25 := funext fun vs => by unfold tp25 tw25; rw [show tu25 = t25 from U_eq _, te25]
def th25 := fun xs => gOf zr25 zo25 (argsT A25 tp25 xs)
def tu112 := U t112
theorem te112 : t112 = t112 := rfl
def tw112 (vs : List Vr) : Rs := t112 (vI vs 0) (vL vs 1)
def tp112 (vs : List Vr) : Rs := tu112 (vI vs 0) (vL vs 1)
theorem tpw112 : tp112 = tw112 := funext fun vs => by unfold tp112 tw112; rw [show tu112 = t112 from U_eq _, te112]
def th112 := fun xs => gOf zr112 zo112 (argsT A112 tp112 xs)
def tu75 := U t75
theorem te75 : ta75 tu112 = t75 := (by rw [show tu112 = t112 from U_eq _] : ta75 tu112 = ta75 t112).trans rfl
def tw75 (vs : List Vr) : Rs := ta75 tu112 (vI vs 0) (vL vs 1) (vI vs 2) (vL vs 3) (vL vs 4)
def tp75 (vs : List Vr) : Rs := tu75 (vI vs 0) (vL vs 1) (vI vs 2) (vL vs 3) (vL vs 4)
theorem tpw75 : tp75 = tw75 := funext fun vs => by unfold tp75 tw75; rw [show tu75 = t75 from U_eq _, te75]
def th75 := fun xs => gOf zr75 zo75 (argsT A75 tp75 xs)
def tu76 := U t76
theorem te76 : t76 = t76 := rfl
def tw76 (vs : List Vr) : Rs := t76 (vI vs 0)
def tp76 (vs : List Vr) : Rs := tu76 (vI vs 0)
theorem tpw76 : tp76 = tw76 := funext fun vs => by unfold tp76 tw76; rw [show tu76 = t76 from U_eq _, te76]
def th76 := fun xs => gOf zr76 zo76 (argsT A76 tp76 xs)
def tu35 := U t35
theorem te35 : ta35 tu25 tu75 tu76 = t35 := (by rw [show tu25 = t25 from U_eq _, show tu75 = t75 from U_eq _, show tu76 = t76 from U_eq _] : ta35 tu25 tu75 tu76 = ta35 t25 t75 t76).trans rfl
def tw35 (vs : List Vr) : Rs := ta35 tu25 tu75 tu76 (vI vs 0) (vL vs 1) (vI vs 2) (vL vs 3) (vL vs 4)
def tp35 (vs : List Vr) : Rs := tu35 (vI vs 0) (vL vs 1) (vI vs 2) (vL vs 3) (vL vs 4)
theorem tpw35 : tp35 = tw35 := funext fun vs => by unfold tp35 tw35; rw [show tu35 = t35 from U_eq _, te35]
def th35 := fun xs => gOf zr35 zo35 (argsT A35 tp35 xs)
def tu143 := U t143
theorem te143 : t143 = t143 := rfl
def tw143 (vs : List Vr) : Rs := t143 (vS vs 0) (vI vs 1) (vS vs 2) (vI vs 3)
def tp143 (vs : List Vr) : Rs := tu143 (vS vs 0) (vI vs 1) (vS vs 2) (vI vs 3)
theorem tpw143 : tp143 = tw143 := funext fun vs => by unfold tp143 tw143; rw [show tu143 = t143 from U_eq _, te143]
def th143 := fun xs => gOf zr143 zo143 (argsT A143 tp143 xs)
def tu137 := U t137
theorem te137 : ta137 tu143 = t137 := (by rw [show tu143 = t143 from U_eq _] : ta137 tu143 = ta137 t143).trans rfl
def tw137 (vs : List Vr) : Rs := ta137 tu143 (vL vs 0) (vL vs 1)
def tp137 (vs : List Vr) : Rs := tu137 (vL vs 0) (vL vs 1)
theorem tpw137 : tp137 = tw137 := funext fun vs => by unfold tp137 tw137; rw [show tu137 = t137 from U_eq _, te137]
def th137 := fun xs => gOf zr137 zo137 (argsT A137 tp137 xs)
def tu120 := U t120
theorem te120 : ta120 tu137 = t120 := (by rw [show tu137 = t137 from U_eq _] : ta120 tu137 = ta120 t137).trans rfl
def tw120 (vs : List Vr) : Rs := ta120 tu137 (vI vs 0) (vI vs 1) (vI vs 2) (vI vs 3) (vI vs 4) (vS vs 5) (vL vs 6) (vI vs 7) (vI vs 8) (vI vs 9) (vI vs 10) (vI vs 11) (vI vs 12) (vI vs 13) (vS vs 14) (vL vs 15) (vI vs 16) (vI vs 17)
def tp120 (vs : List Vr) : Rs := tu120 (vI vs 0) (vI vs 1) (vI vs 2) (vI vs 3) (vI vs 4) (vS vs 5) (vL vs 6) (vI vs 7) (vI vs 8) (vI vs 9) (vI vs 10) (vI vs 11) (vI vs 12) (vI vs 13) (vS vs 14) (vL vs 15) (vI vs 16) (vI vs 17)
theorem tpw120 : tp120 = tw120 := funext fun vs => by unfold tp120 tw120; rw [show tu120 = t120 from U_eq _, te120]
def th120 := fun xs => gOf zr120 zo120 (argsT A120 tp120 xs)
def tu83 := U t83
theorem te83 : ta83 tu120 = t83 := (by rw [show tu120 = t120 from U_eq _] : ta83 tu120 = ta83 t120).trans rfl
def tw83 (vs : List Vr) : Rs := ta83 tu120 (vL vs 0) (vL vs 1)
def tp83 (vs : List Vr) : Rs := tu83 (vL vs 0) (vL vs 1)
theorem tpw83 : tp83 = tw83 := funext fun vs => by unfold tp83 tw83; rw [show tu83 = t83 from U_eq _, te83]
def th83 := fun xs => gOf zr83 zo83 (argsT A83 tp83 xs)
def tu42 := U t42
theorem te42 : ta42 tu83 = t42 := (by rw [show tu83 = t83 from U_eq _] : ta42 tu83 = ta42 t83).trans rfl
def tw42 (vs : List Vr) : Rs := ta42 tu83 (vI vs 0) (vL vs 1) (vI vs 2) (vL vs 3)
def tp42 (vs : List Vr) : Rs := tu42 (vI vs 0) (vL vs 1) (vI vs 2) (vL vs 3)
theorem tpw42 : tp42 = tw42 := funext fun vs => by unfold tp42 tw42; rw [show tu42 = t42 from U_eq _, te42]
def th42 := fun xs => gOf zr42 zo42 (argsT A42 tp42 xs)
def tu84 := U t84
theorem te84 : t84 = t84 := rfl
def tw84 (vs : List Vr) : Rs := t84 (vI vs 0) (vI vs 1) (vI vs 2) (vI vs 3) (vI vs 4) (vI vs 5) (vI vs 6) (vI vs 7) (vI vs 8) (vI vs 9)
def tp84 (vs : List Vr) : Rs := tu84 (vI vs 0) (vI vs 1) (vI vs 2) (vI vs 3) (vI vs 4) (vI vs 5) (vI vs 6) (vI vs 7) (vI vs 8) (vI vs 9)
theorem tpw84 : tp84 = tw84 := funext fun vs => by unfold tp84 tw84; rw [show tu84 = t84 from U_eq _, te84]
def th84 := fun xs => gOf zr84 zo84 (argsT A84 tp84 xs)
def tu43 := U t43
theorem te43 : ta43 tu84 = t43 := (by rw [show tu84 = t84 from U_eq _] : ta43 tu84 = ta43 t84).trans rfl
def tw43 (vs : List Vr) : Rs := ta43 tu84 (vL vs 0) (vL vs 1)
def tp43 (vs : List Vr) : Rs := tu43 (vL vs 0) (vL vs 1)
theorem tpw43 : tp43 = tw43 := funext fun vs => by unfold tp43 tw43; rw [show tu43 = t43 from U_eq _, te43]
def th43 := fun xs => gOf zr43 zo43 (argsT A43 tp43 xs)
def tu121 := U t121
theorem te121 : t121 = t121 := rfl
def tw121 (vs : List Vr) : Rs := t121 (vI vs 0) (vS vs 1) (vI vs 2) (vS vs 3)
def tp121 (vs : List Vr) : Rs := tu121 (vI vs 0) (vS vs 1) (vI vs 2) (vS vs 3)
theorem tpw121 : tp121 = tw121 := funext fun vs => by unfold tp121 tw121; rw [show tu121 = t121 from U_eq _, te121]
def th121 := fun xs => gOf zr121 zo121 (argsT A121 tp121 xs)
def tu85 := U t85
theorem te85 : ta85 tu121 = t85 := (by rw [show tu121 = t121 from U_eq _] : ta85 tu121 = ta85 t121).trans rfl
def tw85 (vs : List Vr) : Rs := ta85 tu121 (vI vs 0) (vI vs 1) (vI vs 2) (vI vs 3) (vS vs 4) (vI vs 5) (vI vs 6) (vI vs 7) (vI vs 8) (vS vs 9)
def tp85 (vs : List Vr) : Rs := tu85 (vI vs 0) (vI vs 1) (vI vs 2) (vI vs 3) (vS vs 4) (vI vs 5) (vI vs 6) (vI vs 7) (vI vs 8) (vS vs 9)
theorem tpw85 : tp85 = tw85 := funext fun vs => by unfold tp85 tw85; rw [show tu85 = t85 from U_eq _, te85]
def th85 := fun xs => gOf zr85 zo85 (argsT A85 tp85 xs)
def tu44 := U t44
theorem te44 : ta44 tu85 = t44 := (by rw [show tu85 = t85 from U_eq _] : ta44 tu85 = ta44 t85).trans rfl
def tw44 (vs : List Vr) : Rs := ta44 tu85 (vL vs 0) (vL vs 1)
def tp44 (vs : List Vr) : Rs := tu44 (vL vs 0) (vL vs 1)
theorem tpw44 : tp44 = tw44 := funext fun vs => by unfold tp44 tw44; rw [show tu44 = t44 from U_eq _, te44]
def th44 := fun xs => gOf zr44 zo44 (argsT A44 tp44 xs)
def tu14 := U t14
theorem te14 : ta14 tu42 tu43 tu44 = t14 := (by rw [show tu42 = t42 from U_eq _, show tu43 = t43 from U_eq _, show tu44 = t44 from U_eq _] : ta14 tu42 tu43 tu44 = ta14 t42 t43 t44).trans rfl
def tw14 (vs : List Vr) : Rs := ta14 tu42 tu43 tu44 (vI vs 0) (vL vs 1) (vI vs 2) (vL vs 3) (vL vs 4) (vI vs 5) (vL vs 6) (vI vs 7) (vL vs 8) (vL vs 9)
def tp14 (vs : List Vr) : Rs := tu14 (vI vs 0) (vL vs 1) (vI vs 2) (vL vs 3) (vL vs 4) (vI vs 5) (vL vs 6) (vI vs 7) (vL vs 8) (vL vs 9)
theorem tpw14 : tp14 = tw14 := funext fun vs => by unfold tp14 tw14; rw [show tu14 = t14 from U_eq _, te14]
def th14 := fun xs => gOf zr14 zo14 (argsT A14 tp14 xs)
def tu86 := U t86
theorem te86 : t86 = t86 := rfl
def tw86 (vs : List Vr) : Rs := t86 (vI vs 0)
def tp86 (vs : List Vr) : Rs := tu86 (vI vs 0)
theorem tpw86 : tp86 = tw86 := funext fun vs => by unfold tp86 tw86; rw [show tu86 = t86 from U_eq _, te86]
def th86 := fun xs => gOf zr86 zo86 (argsT A86 tp86 xs)
def tu87 := U t87
theorem te87 : ta87 tu86 = t87 := (by rw [show tu86 = t86 from U_eq _] : ta87 tu86 = ta87 t86).trans rfl
def tw87 (vs : List Vr) : Rs := ta87 tu86 (vL vs 0) (vI vs 1)
def tp87 (vs : List Vr) : Rs := tu87 (vL vs 0) (vI vs 1)
theorem tpw87 : tp87 = tw87 := funext fun vs => by unfold tp87 tw87; rw [show tu87 = t87 from U_eq _, te87]
def th87 := fun xs => gOf zr87 zo87 (argsT A87 tp87 xs)
def tu51 := U t51
theorem te51 : ta51 tu86 tu87 = t51 := (by rw [show tu86 = t86 from U_eq _, show tu87 = t87 from U_eq _] : ta51 tu86 tu87 = ta51 t86 t87).trans rfl
def tw51 (vs : List Vr) : Rs := ta51 tu86 tu87 (vL vs 0) (vI vs 1)
def tp51 (vs : List Vr) : Rs := tu51 (vL vs 0) (vI vs 1)
theorem tpw51 : tp51 = tw51 := funext fun vs => by unfold tp51 tw51; rw [show tu51 = t51 from U_eq _, te51]
def th51 := fun xs => gOf zr51 zo51 (argsT A51 tp51 xs)
def tu45 := U t45
theorem te45 : ta45 tu51 = t45 := (by rw [show tu51 = t51 from U_eq _] : ta45 tu51 = ta45 t51).trans rfl
def tw45 (vs : List Vr) : Rs := ta45 tu51 (vI vs 0) (vL vs 1) (vI vs 2)
def tp45 (vs : List Vr) : Rs := tu45 (vI vs 0) (vL vs 1) (vI vs 2)
theorem tpw45 : tp45 = tw45 := funext fun vs => by unfold tp45 tw45; rw [show tu45 = t45 from U_eq _, te45]
def th45 := fun xs => gOf zr45 zo45 (argsT A45 tp45 xs)
def tu46 := U t46
theorem te46 : t46 = t46 := rfl
def tw46 (vs : List Vr) : Rs := t46 (vL vs 0) (vI vs 1)
def tp46 (vs : List Vr) : Rs := tu46 (vL vs 0) (vI vs 1)
theorem tpw46 : tp46 = tw46 := funext fun vs => by unfold tp46 tw46; rw [show tu46 = t46 from U_eq _, te46]
def th46 := fun xs => gOf zr46 zo46 (argsT A46 tp46 xs)
def tu47 := U t47
theorem te47 : ta47 tu86 = t47 := (by rw [show tu86 = t86 from U_eq _] : ta47 tu86 = ta47 t86).trans rfl
def tw47 (vs : List Vr) : Rs := ta47 tu86 (vL vs 0) (vI vs 1)
def tp47 (vs : List Vr) : Rs := tu47 (vL vs 0) (vI vs 1)
theorem tpw47 : tp47 = tw47 := funext fun vs => by unfold tp47 tw47; rw [show tu47 = t47 from U_eq _, te47]
def th47 := fun xs => gOf zr47 zo47 (argsT A47 tp47 xs)
def tu15 := U t15
theorem te15 : ta15 tu45 tu46 tu47 = t15 := (by rw [show tu45 = t45 from U_eq _, show tu46 = t46 from U_eq _, show tu47 = t47 from U_eq _] : ta15 tu45 tu46 tu47 = ta15 t45 t46 t47).trans rfl
def tw15 (vs : List Vr) : Rs := ta15 tu45 tu46 tu47 (vI vs 0) (vL vs 1) (vI vs 2) (vL vs 3) (vL vs 4) (vI vs 5)
def tp15 (vs : List Vr) : Rs := tu15 (vI vs 0) (vL vs 1) (vI vs 2) (vL vs 3) (vL vs 4) (vI vs 5)
theorem tpw15 : tp15 = tw15 := funext fun vs => by unfold tp15 tw15; rw [show tu15 = t15 from U_eq _, te15]
def th15 := fun xs => gOf zr15 zo15 (argsT A15 tp15 xs)
def tu88 := U t88
theorem te88 : ta88 tu86 = t88 := (by rw [show tu86 = t86 from U_eq _] : ta88 tu86 = ta88 t86).trans rfl
def tw88 (vs : List Vr) : Rs := ta88 tu86 (vL vs 0) (vI vs 1)
def tp88 (vs : List Vr) : Rs := tu88 (vL vs 0) (vI vs 1)
theorem tpw88 : tp88 = tw88 := funext fun vs => by unfold tp88 tw88; rw [show tu88 = t88 from U_eq _, te88]
def th88 := fun xs => gOf zr88 zo88 (argsT A88 tp88 xs)
def tu52 := U t52
theorem te52 : ta52 tu86 tu88 = t52 := (by rw [show tu86 = t86 from U_eq _, show tu88 = t88 from U_eq _] : ta52 tu86 tu88 = ta52 t86 t88).trans rfl
def tw52 (vs : List Vr) : Rs := ta52 tu86 tu88 (vL vs 0) (vI vs 1)
def tp52 (vs : List Vr) : Rs := tu52 (vL vs 0) (vI vs 1)
theorem tpw52 : tp52 = tw52 := funext fun vs => by unfold tp52 tw52; rw [show tu52 = t52 from U_eq _, te52]
def th52 := fun xs => gOf zr52 zo52 (argsT A52 tp52 xs)
def tu48 := U t48
theorem te48 : ta48 tu52 = t48 := (by rw [show tu52 = t52 from U_eq _] : ta48 tu52 = ta48 t52).trans rfl
def tw48 (vs : List Vr) : Rs := ta48 tu52 (vI vs 0) (vL vs 1) (vI vs 2)
def tp48 (vs : List Vr) : Rs := tu48 (vI vs 0) (vL vs 1) (vI vs 2)
theorem tpw48 : tp48 = tw48 := funext fun vs => by unfold tp48 tw48; rw [show tu48 = t48 from U_eq _, te48]
def th48 := fun xs => gOf zr48 zo48 (argsT A48 tp48 xs)
def tu49 := U t49
theorem te49 : t49 = t49 := rfl
def tw49 (vs : List Vr) : Rs := t49 (vL vs 0) (vI vs 1)
def tp49 (vs : List Vr) : Rs := tu49 (vL vs 0) (vI vs 1)
theorem tpw49 : tp49 = tw49 := funext fun vs => by unfold tp49 tw49; rw [show tu49 = t49 from U_eq _, te49]
def th49 := fun xs => gOf zr49 zo49 (argsT A49 tp49 xs)
def tu50 := U t50
theorem te50 : ta50 tu86 = t50 := (by rw [show tu86 = t86 from U_eq _] : ta50 tu86 = ta50 t86).trans rfl
def tw50 (vs : List Vr) : Rs := ta50 tu86 (vL vs 0) (vI vs 1)
def tp50 (vs : List Vr) : Rs := tu50 (vL vs 0) (vI vs 1)
theorem tpw50 : tp50 = tw50 := funext fun vs => by unfold tp50 tw50; rw [show tu50 = t50 from U_eq _, te50]
def th50 := fun xs => gOf zr50 zo50 (argsT A50 tp50 xs)
def tu16 := U t16
theorem te16 : ta16 tu48 tu49 tu50 = t16 := (by rw [show tu48 = t48 from U_eq _, show tu49 = t49 from U_eq _, show tu50 = t50 from U_eq _] : ta16 tu48 tu49 tu50 = ta16 t48 t49 t50).trans rfl
def tw16 (vs : List Vr) : Rs := ta16 tu48 tu49 tu50 (vI vs 0) (vL vs 1) (vI vs 2) (vL vs 3) (vL vs 4) (vI vs 5)
def tp16 (vs : List Vr) : Rs := tu16 (vI vs 0) (vL vs 1) (vI vs 2) (vL vs 3) (vL vs 4) (vI vs 5)
theorem tpw16 : tp16 = tw16 := funext fun vs => by unfold tp16 tw16; rw [show tu16 = t16 from U_eq _, te16]
def th16 := fun xs => gOf zr16 zo16 (argsT A16 tp16 xs)
def tu9 := U t9
theorem te9 : ta9 tu14 tu15 tu16 tu22 tu24 tu34 tu35 = t9 := (by rw [show tu14 = t14 from U_eq _, show tu15 = t15 from U_eq _, show tu16 = t16 from U_eq _, show tu22 = t22 from U_eq _, show tu24 = t24 from U_eq _, show tu34 = t34 from U_eq _, show tu35 = t35 from U_eq _] : ta9 tu14 tu15 tu16 tu22 tu24 tu34 tu35 = ta9 t14 t15 t16 t22 t24 t34 t35).trans rfl
def tw9 (vs : List Vr) : Rs := ta9 tu14 tu15 tu16 tu22 tu24 tu34 tu35 (vI vs 0) (vL vs 1) (vI vs 2) (vL vs 3) (vL vs 4)
def tp9 (vs : List Vr) : Rs := tu9 (vI vs 0) (vL vs 1) (vI vs 2) (vL vs 3) (vL vs 4)
theorem tpw9 : tp9 = tw9 := funext fun vs => by unfold tp9 tw9; rw [show tu9 = t9 from U_eq _, te9]
def th9 := fun xs => gOf zr9 zo9 (argsT A9 tp9 xs)
def sg144 : Sig := ⟨[.bor, .bor], .sc [.one (.i .i64 0)], [0, 1, 2, 4, 11], []⟩
def sg138 : Sig := ⟨[.bor, .bor], .sc [.one (.i .i64 0)], [0, 1, 4, 5, 11, 15, 25], []⟩
def sg122 : Sig := ⟨[.bor, .bor], .sc [.one (.i .i64 0)], [0, 1, 2, 4, 11, 17], []⟩
def sg89 : Sig := ⟨[.bor, .bor], .sc [.one (.i .i64 0)], [0, 1, 4, 5, 11, 15, 25], []⟩
def sg53 : Sig := ⟨[.bor, .bor], .sc [.one (.i .i64 0)], [0, 1, 2, 4, 10], []⟩
def sg54 : Sig := ⟨[.bor, .bor], .sc [.one (.i .i64 0)], [0, 1, 4, 10], []⟩
def sg123 : Sig := ⟨[.bor, .bor], .sc [.one (.i .i64 0)], [0, 1, 2, 4, 11], []⟩
def sg90 : Sig := ⟨[.bor, .bor], .sc [.one (.i .i64 0)], [0, 1, 2, 4, 10], []⟩
def sg55 : Sig := ⟨[.bor, .bor], .sc [.one (.i .i64 0)], [0, 1, 4, 5, 11, 15, 25], []⟩
def sg22 : Sig := ⟨[.bor, .bor], .sc [.one (.i .i64 0)], [0, 1, 2, 4, 10, 16, 22], []⟩
def sg145 : Sig := ⟨[.bor], .sc [.agg [.s ⟨#[]⟩, .i .i64 0]], [0, 1, 2, 3], []⟩
def sg140 : Sig := ⟨[.bor], .fresh [[some (129, 2)]], [0, 2, 3, 4, 11], []⟩
def sg128 : Sig := ⟨[.bor], .fresh [[none, none, none, none, none, none, some (129, 2), none, none]], [0, 1, 2, 3], []⟩
def sg96 : Sig := ⟨[.bor], .fresh [[some (64, 9)]], [0, 2, 3, 4, 11], []⟩
def sg60 : Sig := ⟨[.bor], .fresh [[none, some (64, 9)]], [0, 1, 2, 3], []⟩
def sg97 : Sig := ⟨[.bor], .sc [.agg [.i .i64 0, .i .i64 0, .i .i64 0, .i .i64 0, .i .i64 0]], [0, 1, 2, 3], []⟩
def sg61 : Sig := ⟨[.bor], .fresh [[some (90, 5)]], [0, 2, 3, 4, 11], []⟩
def sg129 : Sig := ⟨[.bor], .sc [.agg [.i .i64 0, .s ⟨#[]⟩]], [0, 1, 2, 3], []⟩
def sg98 : Sig := ⟨[.bor], .sc [.agg [.i .i64 0, .i .i64 0, .i .i64 0, .i .i64 0, .s ⟨#[]⟩]], [0, 1, 2, 3], []⟩
def sg62 : Sig := ⟨[.bor], .fresh [[some (81, 5)]], [0, 2, 3, 4, 11], []⟩
def sg24 : Sig := ⟨[.bor], .fresh [[none, some (64, 9), none, some (90, 5), some (81, 5)]], [0, 1, 2, 3], []⟩
def sg57 : Sig := ⟨[.bor, .bor, .bor], .sc [.one (.b false)], [0, 1, 2, 6], []⟩
def sg139 : Sig := ⟨[.bor], .sc [.one (.b false)], [0, 2], []⟩
def sg124 : Sig := ⟨[.bor], .sc [.one (.b false)], [0, 2, 3, 7, 11, 24], []⟩
def sg125 : Sig := ⟨[.bor], .sc [.one (.b false)], [0, 2, 3, 15, 19, 26], []⟩
def sg126 : Sig := ⟨[.bor, .bor], .sc [.one (.i .i64 0)], [0, 1, 2, 4, 5, 10, 20], []⟩
def sg91 : Sig := ⟨[.bor, .bor], .sc [.one (.b false)], [0, 1, 2, 3, 4, 5, 6, 7, 23, 39, 40, 49, 62, 84, 89, 128], [(16, [(0, 0, []), (1, 0, []), (2, 0, []), (3, 0, []), (4, 0, []), (5, 0, []), (6, 0, []), (7, 0, []), (8, 0, []), (9, 0, []), (10, 0, []), (11, 0, []), (12, 0, []), (13, 0, []), (14, 0, []), (15, 0, []), (16, 0, []), (17, 0, []), (18, 0, []), (19, 0, []), (20, 0, []), (21, 0, []), (22, 0, []), (23, 0, []), (24, 0, []), (25, 0, []), (26, 0, []), (27, 0, []), (28, 0, []), (29, 0, []), (30, 0, []), (31, 0, [])])]⟩
def sg92 : Sig := ⟨[.bor, .bor], .fresh [[some (4, 1)]], [0, 1, 2, 4, 5, 6, 7, 8, 9, 10, 11, 24, 33, 40, 47, 56, 72], [(17, [(0, 0, []), (1, 0, []), (2, 0, []), (3, 0, []), (4, 0, []), (5, 0, []), (6, 0, []), (7, 0, []), (8, 0, []), (9, 0, []), (10, 0, []), (11, 0, []), (12, 0, [])])]⟩
def sg93 : Sig := ⟨[.bor, .bor], .sc [.one (.i .i64 0)], [0, 1, 2, 4, 5, 6, 7, 12, 23, 37], []⟩
def sg94 : Sig := ⟨[.bor], .sc [.one (.i .i64 0)], [0, 1, 2, 3, 4, 9], []⟩
def sg127 : Sig := ⟨[.bor, .bor], .sc [.one (.i .i64 0), .one (.i .i64 0)], [0, 1, 2, 4, 5, 6, 7, 8, 9, 16, 22], []⟩
def sg95 : Sig := ⟨[.bor], .sc [.one (.b false)], [0, 1, 2, 3, 4, 5, 6, 11, 31, 58], []⟩
def sg56 : Sig := ⟨[.bor], .sc [.one (.b false)], [0, 1, 2, 3, 4, 5, 6, 33, 38, 74, 81, 108], [(7, [(0, 0, []), (1, 0, []), (2, 0, []), (3, 0, []), (4, 0, []), (5, 0, []), (6, 0, []), (7, 0, []), (8, 0, []), (9, 0, []), (10, 0, []), (11, 0, []), (12, 0, []), (13, 0, []), (14, 0, []), (15, 0, []), (16, 0, []), (17, 0, []), (18, 0, []), (19, 0, []), (20, 0, []), (21, 0, []), (22, 0, []), (23, 0, []), (24, 0, []), (25, 0, []), (26, 0, []), (27, 0, []), (28, 0, [])]), (13, [(0, 0, []), (1, 0, []), (2, 0, []), (3, 0, []), (4, 0, []), (5, 0, []), (6, 0, []), (7, 0, []), (8, 0, []), (9, 0, []), (10, 0, []), (11, 0, []), (12, 0, []), (13, 0, []), (14, 0, []), (15, 0, []), (16, 0, []), (17, 0, []), (18, 0, []), (19, 0, []), (20, 0, []), (21, 0, []), (22, 0, []), (23, 0, []), (24, 0, [])])]⟩
def sg58 : Sig := ⟨[.bor], .sc [.one (.b false)], [0, 2, 3, 4, 7, 11, 60], [(7, [(0, 0, []), (1, 0, []), (2, 0, []), (3, 0, []), (4, 0, []), (5, 0, []), (6, 0, []), (7, 0, []), (8, 0, []), (9, 0, []), (10, 0, []), (11, 0, []), (12, 0, []), (13, 0, []), (14, 0, []), (15, 0, []), (16, 0, []), (17, 0, []), (18, 0, []), (19, 0, []), (20, 0, []), (21, 0, []), (22, 0, []), (23, 0, []), (24, 0, []), (25, 0, []), (26, 0, []), (27, 0, []), (28, 0, []), (29, 0, []), (30, 0, []), (31, 0, []), (32, 0, []), (33, 0, []), (34, 0, []), (35, 0, []), (36, 0, []), (37, 0, []), (38, 0, []), (39, 0, []), (40, 0, []), (41, 0, []), (42, 0, [])])]⟩
def sg59 : Sig := ⟨[.bor], .sc [.one (.b false)], [0, 1, 2], []⟩
def sg23 : Sig := ⟨[.bor], .sc [.one (.b false)], [0, 1, 2, 3, 4, 26, 31, 76], [(7, [(0, 0, []), (1, 0, []), (2, 0, []), (3, 0, []), (4, 0, []), (5, 0, []), (6, 0, []), (7, 0, []), (8, 0, []), (9, 0, []), (10, 0, []), (11, 0, []), (12, 0, []), (13, 0, []), (14, 0, []), (15, 0, []), (16, 0, []), (17, 0, []), (18, 0, []), (19, 0, []), (20, 0, []), (21, 0, []), (22, 0, []), (23, 0, []), (24, 0, []), (25, 0, []), (26, 0, []), (27, 0, []), (28, 0, []), (29, 0, []), (30, 0, []), (31, 0, []), (32, 0, []), (33, 0, []), (34, 0, []), (35, 0, []), (36, 0, []), (37, 0, [])])]⟩
def sg111 : Sig := ⟨[.bor], .fresh [[none, some (64, 9)]], [0, 1, 2, 3, 4, 5, 13], [(1000002, [(192, 1, [64, 9])])]⟩
def sg73 : Sig := ⟨[.bor], .fresh [[none, some (64, 9), none, some (90, 5), some (81, 5)]], [0, 1, 2], []⟩
def sg74 : Sig := ⟨[.bor], .sc [.one (.i .i64 0)], [0, 2, 4, 6], []⟩
def sg34 : Sig := ⟨[.bor], .fresh [[none, some (64, 9), none, some (90, 5), some (81, 5)]], [0, 1, 2, 5], []⟩
def sg63 : Sig := ⟨[.bor, .bor, .bor], .sc [.one (.b false)], [0, 1, 2, 6], []⟩
def sg64 : Sig := ⟨[.bor], .sc [.one (.b false)], [0, 1, 2], []⟩
def sg65 : Sig := ⟨[.bor], .sc [.one (.b false)], [0, 2, 3, 4, 5, 6, 7, 8, 54], [(4, [(0, 0, []), (1, 0, []), (2, 0, []), (3, 0, []), (4, 0, []), (5, 0, []), (6, 0, []), (7, 0, []), (8, 0, []), (9, 0, []), (10, 0, []), (11, 0, []), (12, 0, []), (13, 0, []), (14, 0, []), (15, 0, []), (16, 0, []), (17, 0, []), (18, 0, []), (19, 0, []), (20, 0, []), (21, 0, []), (22, 0, []), (23, 0, []), (24, 0, []), (25, 0, []), (26, 0, []), (27, 0, []), (28, 0, []), (29, 0, []), (30, 0, []), (31, 0, []), (32, 0, []), (33, 0, []), (34, 0, []), (35, 0, []), (36, 0, []), (37, 0, []), (38, 0, []), (39, 0, []), (40, 0, []), (41, 0, []), (42, 0, [])])]⟩
def sg141 : Sig := ⟨[.bor], .sc [.one (.b false)], [0, 2], []⟩
def sg130 : Sig := ⟨[.bor], .sc [.one (.b false)], [0, 2, 3, 5, 6, 7, 19], []⟩
def sg142 : Sig := ⟨[.bor], .sc [.one (.b false)], [0, 2, 3, 5, 6, 7, 13], []⟩
def sg132 : Sig := ⟨[.rptr 2, .bor], .ep [.i .i64 0, .i .i64 0, .i .i64 0, .i .i64 0, .i .i64 0, .s ⟨#[]⟩, .l [], .i .i64 0, .i .i64 0], [0, 1, 4, 5, 10, 11, 12, 23], []⟩
def sg131 : Sig := ⟨[.rptr 2, .bor], .sc [.one (.b false)], [0, 1, 3, 4, 5, 6, 8, 9, 10, 11, 46], [(4, [(0, 0, []), (1, 0, []), (2, 0, []), (3, 0, []), (4, 0, []), (5, 0, []), (6, 0, []), (7, 0, []), (8, 0, []), (9, 0, []), (10, 0, []), (11, 0, []), (12, 0, []), (13, 0, []), (14, 0, []), (15, 0, []), (16, 0, []), (17, 0, []), (18, 0, []), (19, 0, []), (20, 0, []), (21, 0, []), (22, 0, []), (23, 0, []), (24, 0, []), (25, 0, []), (26, 0, []), (27, 0, []), (28, 0, []), (29, 0, []), (30, 0, []), (31, 0, [])])]⟩
def sg99 : Sig := ⟨[.rptr 2, .bor], .sc [.one (.b false)], [0, 1, 3, 4, 20, 39, 41, 42, 48, 58], []⟩
def sg133 : Sig := ⟨[.bor, .bor], .sc [.one (.i .i64 0)], [0, 1, 4, 5, 7, 8, 9, 16], []⟩
def sg101 : Sig := ⟨[.bor, .bor], .sc [.one (.b false)], [0, 1, 4], []⟩
def sg100 : Sig := ⟨[.rptr 2, .bor], .fresh [[some (3, 1)]], [0, 1, 4, 5, 6, 7, 8, 10, 17, 27, 31, 32, 33, 34, 41], [(1000013, [(2880, 0, []), (3200, 0, [])])]⟩
def sg102 : Sig := ⟨[.rptr 2, .bor], .sc [.one (.i .i64 0)], [0, 1, 4, 5, 7, 9, 13, 14, 15, 16, 20, 21, 22, 23, 29], []⟩
def sg103 : Sig := ⟨[.rptr 2], .sc [.one (.i .i64 0)], [0, 2, 3, 5, 9, 10, 11, 12], []⟩
def sg135 : Sig := ⟨[.rptr 2, .bor], .sc [.one (.i .i64 0), .one (.i .i64 0)], [0, 1, 4, 5, 6, 7, 9, 10, 14, 15, 16, 17, 24], []⟩
def sg105 : Sig := ⟨[.rptr 2, .bor], .sc [.one (.b false)], [0, 1, 3, 4, 5, 6], []⟩
def sg134 : Sig := ⟨[.bor, .fnp 105 2], .sc [.one (.i .i64 0)], [0, 1, 4, 5, 7, 8, 9, 16], []⟩
def sg104 : Sig := ⟨[.bor, .fnp 105 2], .sc [.one (.b false)], [0, 1, 4], []⟩
def sg66 : Sig := ⟨[.bor], .sc [.one (.b false)], [0, 1, 2, 3, 4, 5, 7, 34, 36, 37, 38, 39, 70, 75, 76, 77, 78, 96], [(6, [(0, 0, []), (1, 0, []), (2, 0, []), (3, 0, []), (4, 0, []), (5, 0, []), (6, 0, []), (7, 0, []), (8, 0, []), (9, 0, []), (10, 0, []), (11, 0, []), (12, 0, []), (13, 0, []), (14, 0, []), (15, 0, []), (16, 0, []), (17, 0, []), (18, 0, []), (19, 0, []), (20, 0, []), (21, 0, []), (22, 0, []), (23, 0, []), (24, 0, []), (25, 0, []), (26, 0, []), (27, 0, [])])]⟩
def sg25 : Sig := ⟨[.bor], .sc [.one (.b false)], [0, 1, 2, 3, 4, 6, 7, 8, 9, 50], [(4, [(0, 0, []), (1, 0, []), (2, 0, []), (3, 0, []), (4, 0, []), (5, 0, []), (6, 0, []), (7, 0, []), (8, 0, []), (9, 0, []), (10, 0, []), (11, 0, []), (12, 0, []), (13, 0, []), (14, 0, []), (15, 0, []), (16, 0, []), (17, 0, []), (18, 0, []), (19, 0, []), (20, 0, []), (21, 0, []), (22, 0, []), (23, 0, []), (24, 0, []), (25, 0, []), (26, 0, []), (27, 0, []), (28, 0, []), (29, 0, []), (30, 0, []), (31, 0, []), (32, 0, []), (33, 0, []), (34, 0, []), (35, 0, []), (36, 0, []), (37, 0, [])])]⟩
def sg112 : Sig := ⟨[.bor], .fresh [[none, some (64, 9)]], [0, 1, 2, 3, 5, 10, 11, 12, 13], [(1000002, [(192, 1, [64, 9])])]⟩
def sg75 : Sig := ⟨[.bor], .fresh [[none, some (64, 9), none, some (90, 5), some (81, 5)]], [0, 1, 2], [(1, [(0, 0, []), (1, 0, []), (3, 0, []), (4, 0, []), (5, 0, []), (6, 0, []), (8, 0, []), (9, 0, []), (2, 1, [3, 4, 5, 6, 8, 9]), (7, 1, [3, 4, 8, 9]), (10, 1, [3, 4]), (11, 0, []), (12, 1, [])])]⟩
def sg76 : Sig := ⟨[.bor], .sc [.one (.i .i64 0)], [0, 2, 4, 6], []⟩
def sg35 : Sig := ⟨[.bor], .fresh [[none, some (64, 9), none, some (90, 5), some (81, 5)]], [0, 1, 2, 3, 6], []⟩
def sg143 : Sig := ⟨[.bor, .bor], .sc [.one (.b false)], [0, 1, 2, 3, 4, 9, 14], []⟩
def sg137 : Sig := ⟨[.bor, .bor], .sc [.one (.b false)], [0, 1, 4, 5, 10, 14, 26], [(6, [(0, 0, []), (1, 0, []), (2, 0, []), (3, 0, []), (4, 0, []), (5, 0, []), (6, 0, []), (7, 0, []), (8, 0, []), (9, 0, [])])]⟩
def sg120 : Sig := ⟨[.bor, .bor], .sc [.one (.b false)], [0, 1, 2, 3, 4, 9, 14, 19, 24, 29, 34, 40, 45, 50], []⟩
def sg83 : Sig := ⟨[.bor, .bor], .sc [.one (.b false)], [0, 1, 4, 5, 10, 14, 26], [(6, [(0, 0, []), (1, 0, []), (2, 0, []), (3, 0, []), (4, 0, []), (5, 0, []), (6, 0, []), (7, 0, []), (8, 0, []), (9, 0, [])])]⟩
def sg42 : Sig := ⟨[.bor, .bor], .sc [.one (.b false)], [0, 1, 2, 3, 4, 9, 15], []⟩
def sg84 : Sig := ⟨[.bor, .bor], .sc [.one (.b false)], [0, 1, 2, 3, 4, 9, 14, 19, 24, 29], []⟩
def sg43 : Sig := ⟨[.bor, .bor], .sc [.one (.b false)], [0, 1, 4, 5, 10, 14, 26], [(6, [(0, 0, []), (1, 0, []), (2, 0, []), (3, 0, []), (4, 0, []), (5, 0, []), (6, 0, []), (7, 0, []), (8, 0, []), (9, 0, [])])]⟩
def sg121 : Sig := ⟨[.bor, .bor], .sc [.one (.b false)], [0, 1, 2, 3, 4, 9, 14], []⟩
def sg85 : Sig := ⟨[.bor, .bor], .sc [.one (.b false)], [0, 1, 2, 3, 4, 9, 14, 19, 25], []⟩
def sg44 : Sig := ⟨[.bor, .bor], .sc [.one (.b false)], [0, 1, 4, 5, 10, 14, 26], [(6, [(0, 0, []), (1, 0, []), (2, 0, []), (3, 0, []), (4, 0, []), (5, 0, []), (6, 0, []), (7, 0, []), (8, 0, []), (9, 0, [])])]⟩
def sg14 : Sig := ⟨[.bor, .bor], .sc [.one (.b false)], [0, 1, 2, 3, 4, 10, 15, 21, 27], []⟩
def sg86 : Sig := ⟨[.bor], .sc [.one (.s ⟨#[]⟩)], [0, 2, 3, 5, 7], []⟩
def sg87 : Sig := ⟨[.io [some (999999999, 2)], .bor], .sc [.one (.i .i64 0)], [0, 1, 4, 5, 9], []⟩
def sg51 : Sig := ⟨[.io [some (999999999, 9)], .bor], .sc [.one (.i .i64 0)], [0, 1, 4, 5, 9], []⟩
def sg45 : Sig := ⟨[.io [none, some (999999999, 9)], .bor], .sc [.one (.i .i64 0)], [0, 1, 2, 4], []⟩
def sg46 : Sig := ⟨[.io [some (999999999, 5)], .bor], .sc [.one (.i .i64 0)], [0, 1, 4, 5, 9], []⟩
def sg47 : Sig := ⟨[.io [some (999999999, 5)], .bor], .sc [.one (.i .i64 0)], [0, 1, 4, 5, 9], []⟩
def sg15 : Sig := ⟨[.io [none, some (999999999, 9), none, some (999999999, 5), some (999999999, 5)], .bor], .sc [.one (.i .i64 0)], [0, 1, 2, 4], []⟩
def sg88 : Sig := ⟨[.bor, .bor], .sc [.one (.i .i64 0)], [0, 1, 4, 5, 9, 19, 28], [(4, [(0, 0, []), (1, 0, []), (2, 0, []), (3, 0, []), (4, 0, []), (5, 0, []), (6, 0, []), (7, 0, [])])]⟩
def sg52 : Sig := ⟨[.bor, .bor], .sc [.one (.i .i64 0)], [0, 1, 4, 5, 9, 18, 27, 36, 45, 54, 64, 75, 82, 91], [(19, [(0, 0, []), (1, 0, []), (2, 0, []), (3, 0, []), (4, 0, []), (5, 0, []), (6, 0, []), (7, 0, [])])]⟩
def sg48 : Sig := ⟨[.bor, .bor], .sc [.one (.i .i64 0)], [0, 1, 2, 4, 10], []⟩
def sg49 : Sig := ⟨[.bor, .bor], .sc [.one (.i .i64 0)], [0, 1, 4, 5, 9, 18, 27, 36, 45, 54], []⟩
def sg50 : Sig := ⟨[.bor, .bor], .sc [.one (.i .i64 0)], [0, 1, 4, 5, 9, 18, 27, 36, 46, 57], [(16, [(0, 0, []), (1, 0, []), (2, 0, []), (3, 0, []), (4, 0, []), (5, 0, []), (6, 0, []), (7, 0, []), (8, 0, [])])]⟩
def sg16 : Sig := ⟨[.bor, .bor], .sc [.one (.i .i64 0)], [0, 1, 2, 4, 10, 16, 22], []⟩
def sg9 : Sig := ⟨[.bor], .sc [.one (.b false)], [0, 1, 2, 3, 4, 5, 6, 7, 8, 9, 10, 15, 26, 31, 42, 50, 53, 60, 65, 68], [(10, [(0, 0, []), (1, 0, []), (2, 1, [0]), (3, 0, []), (4, 0, [])])]⟩
def sig : Nat → Sig := lkF ⟨[], .fresh [], [], []⟩ [(144, sg144), (138, sg138), (122, sg122), (89, sg89), (53, sg53), (54, sg54), (123, sg123), (90, sg90), (55, sg55), (22, sg22), (145, sg145), (140, sg140), (128, sg128), (96, sg96), (60, sg60), (97, sg97), (61, sg61), (129, sg129), (98, sg98), (62, sg62), (24, sg24), (57, sg57), (139, sg139), (124, sg124), (125, sg125), (126, sg126), (91, sg91), (92, sg92), (93, sg93), (94, sg94), (127, sg127), (95, sg95), (56, sg56), (58, sg58), (59, sg59), (23, sg23), (111, sg111), (73, sg73), (74, sg74), (34, sg34), (63, sg63), (64, sg64), (65, sg65), (141, sg141), (130, sg130), (142, sg142), (132, sg132), (131, sg131), (99, sg99), (133, sg133), (101, sg101), (100, sg100), (102, sg102), (103, sg103), (135, sg135), (105, sg105), (134, sg134), (104, sg104), (66, sg66), (25, sg25), (112, sg112), (75, sg75), (76, sg76), (35, sg35), (143, sg143), (137, sg137), (120, sg120), (83, sg83), (42, sg42), (84, sg84), (43, sg43), (121, sg121), (85, sg85), (44, sg44), (14, sg14), (86, sg86), (87, sg87), (51, sg51), (45, sg45), (46, sg46), (47, sg47), (15, sg15), (88, sg88), (52, sg52), (48, sg48), (49, sg49), (50, sg50), (16, sg16), (9, sg9)]
def dep : Nat → Nat := lkF 0 [(144, 1), (138, 2), (122, 3), (89, 4), (53, 5), (54, 1), (123, 1), (90, 2), (55, 3), (22, 6), (145, 1), (140, 2), (128, 3), (96, 4), (60, 5), (97, 1), (61, 2), (129, 1), (98, 2), (62, 3), (24, 6), (57, 1), (139, 1), (124, 2), (125, 2), (126, 1), (91, 3), (92, 2), (93, 1), (94, 1), (127, 3), (95, 4), (56, 5), (58, 2), (59, 2), (23, 6), (111, 1), (73, 2), (74, 1), (34, 7), (63, 1), (64, 2), (65, 2), (141, 1), (130, 2), (142, 2), (132, 1), (131, 3), (99, 4), (133, 1), (101, 2), (100, 3), (102, 1), (103, 1), (135, 4), (105, 5), (134, 6), (104, 7), (66, 8), (25, 9), (112, 1), (75, 2), (76, 1), (35, 10), (143, 1), (137, 2), (120, 3), (83, 4), (42, 5), (84, 1), (43, 2), (121, 1), (85, 2), (44, 3), (14, 6), (86, 1), (87, 2), (51, 3), (45, 4), (46, 1), (47, 2), (15, 5), (88, 2), (52, 3), (48, 4), (49, 1), (50, 2), (16, 5), (9, 11)]
def gT : List (Nat × (List DV → Bool × List DV × List (List D))) := [(144, th144), (138, th138), (122, th122), (89, th89), (53, th53), (54, th54), (123, th123), (90, th90), (55, th55), (22, th22), (145, th145), (140, th140), (128, th128), (96, th96), (60, th60), (97, th97), (61, th61), (129, th129), (98, th98), (62, th62), (24, th24), (57, th57), (139, th139), (124, th124), (125, th125), (126, th126), (91, th91), (92, th92), (93, th93), (94, th94), (127, th127), (95, th95), (56, th56), (58, th58), (59, th59), (23, th23), (111, th111), (73, th73), (74, th74), (34, th34), (63, th63), (64, th64), (65, th65), (141, th141), (130, th130), (142, th142), (132, th132), (131, th131), (99, th99), (133, th133), (101, th101), (100, th100), (102, th102), (103, th103), (135, th135), (105, th105), (134, th134), (104, th104), (66, th66), (25, th25), (112, th112), (75, th75), (76, th76), (35, th35), (143, th143), (137, th137), (120, th120), (83, th83), (42, th42), (84, th84), (43, th43), (121, th121), (85, th85), (44, th44), (14, th14), (86, th86), (87, th87), (51, th51), (45, th45), (46, th46), (47, th47), (15, th15), (88, th88), (52, th52), (48, th48), (49, th49), (50, th50), (16, th16), (9, th9)]
def G : Nat → List DV → Bool × List DV × List (List D) := lkF (fun _ => (false, [], [])) gT
noncomputable def C144 : Ctx := ⟨Try.prog, sig, Gd G dep (dep 144), (sig 144).keep, (sig 144).ord⟩
noncomputable def c144 : Code := Try.f144.body.getD .skip
def ST144 : List (Nat × (St → Cont (List DV × List (List D)) → Rs)) := []
theorem r144 : ∀ vs, tw144 vs = bodyK C144 (lkS ST144) Try.f144 (sig 144) c144 (fillAs A144 0 vs) := fun vs => by kernel_rfl
theorem ok144 : OkS sig (Gd G dep (dep 144)) 144 th144 := fun xs q h => body_ok Try.func144 (c := c144) rfl A144 tw144 (sums_of (C := C144) (t := ST144) trivial) r144 (by rw [← tpw144]; exact opt_gOf h)
noncomputable def C138 : Ctx := ⟨Try.prog, sig, Gd G dep (dep 138), (sig 138).keep, (sig 138).ord⟩
noncomputable def c138 : Code := Try.f138.body.getD .skip
def T138o1 : TSt := ⟨[dL, dI, dI, dI, dB, .any, .any], []⟩
def X138o1e1 : TSt := ⟨[dL, dI, dI, dI, dB, dB, dB], []⟩
def X138o1e2 : TSt := ⟨[dL, dI, dI, dI, dB, dB, .any], []⟩
def L138o1 (m : Nat) (vs : List Vr) (K : Cont (List DV × List (List D))) : Rs := la138o1 tu144 (vL vs 0) (vI vs 2) (vB vs 4) (fun n22 n23 b24 b25 => K .ret (fillS X138o1e1 [.l (vL vs 0), .i (n22), .i ((-1 : Int)), .i (n23), .b (vB vs 4), .b (b24), .b (b25)])) (fun n26 n27 b28 v29 => K (.exit 0) (fillS X138o1e2 [.l (vL vs 0), .i (n26), .i (vI vs 2), .i (n27), .b (vB vs 4), .b (b28), .v (v29)])) m (vI vs 1) (vI vs 3) (vV vs 5) (vV vs 6)
def ST138 : List (Nat × (St → Cont (List DV × List (List D)) → Rs)) := [(1, sumT T138o1 (L138o1 KK))]
noncomputable def b138o1 : Code := match nodeAt c138 1 with | some (.loop a) => a | _ => .skip
theorem q138o1 : ∀ m vs K, L138o1 (m + 1) vs K = denK C138 (lkS ST138) b138o1 2 (fillS T138o1 vs) (loopK T138o1 (L138o1 m) K) := fun m vs K => by kernel_rfl
theorem o138o1 : SumOk C138 KK (sumT T138o1 (L138o1 KK)) (.loop b138o1) := loop_ok T138o1 L138o1 (sums_of (t := ST138) ⟨fun _ _ h => absurd h (by decide), trivial⟩) (fun _ _ => rfl) q138o1
theorem r138 : ∀ vs, tw138 vs = bodyK C138 (lkS ST138) Try.f138 (sig 138) c138 (fillAs A138 0 vs) := fun vs => by kernel_rfl
theorem ok138 : OkS sig (Gd G dep (dep 138)) 138 th138 := fun xs q h => body_ok Try.func138 (c := c138) rfl A138 tw138 (sums_of (C := C138) (t := ST138) ⟨sum_in (c' := .loop b138o1) (by kernel_rfl) (o138o1), trivial⟩) r138 (by rw [← tpw138]; exact opt_gOf h)
noncomputable def C122 : Ctx := ⟨Try.prog, sig, Gd G dep (dep 122), (sig 122).keep, (sig 122).ord⟩
noncomputable def c122 : Code := Try.f122.body.getD .skip
def ST122 : List (Nat × (St → Cont (List DV × List (List D)) → Rs)) := []
theorem r122 : ∀ vs, tw122 vs = bodyK C122 (lkS ST122) Try.f122 (sig 122) c122 (fillAs A122 0 vs) := fun vs => by kernel_rfl
theorem ok122 : OkS sig (Gd G dep (dep 122)) 122 th122 := fun xs q h => body_ok Try.func122 (c := c122) rfl A122 tw122 (sums_of (C := C122) (t := ST122) trivial) r122 (by rw [← tpw122]; exact opt_gOf h)
noncomputable def C89 : Ctx := ⟨Try.prog, sig, Gd G dep (dep 89), (sig 89).keep, (sig 89).ord⟩
noncomputable def c89 : Code := Try.f89.body.getD .skip
def T89o1 : TSt := ⟨[dL, dI, dI, dI, dB, .any, .any], []⟩
def X89o1e1 : TSt := ⟨[dL, dI, dI, dI, dB, dB, dB], []⟩
def X89o1e2 : TSt := ⟨[dL, dI, dI, dI, dB, dB, .any], []⟩
def L89o1 (m : Nat) (vs : List Vr) (K : Cont (List DV × List (List D))) : Rs := la89o1 tu122 (vL vs 0) (vI vs 2) (vB vs 4) (fun n22 n23 b24 b25 => K .ret (fillS X89o1e1 [.l (vL vs 0), .i (n22), .i ((-1 : Int)), .i (n23), .b (vB vs 4), .b (b24), .b (b25)])) (fun n26 n27 b28 v29 => K (.exit 0) (fillS X89o1e2 [.l (vL vs 0), .i (n26), .i (vI vs 2), .i (n27), .b (vB vs 4), .b (b28), .v (v29)])) m (vI vs 1) (vI vs 3) (vV vs 5) (vV vs 6)
def ST89 : List (Nat × (St → Cont (List DV × List (List D)) → Rs)) := [(1, sumT T89o1 (L89o1 KK))]
noncomputable def b89o1 : Code := match nodeAt c89 1 with | some (.loop a) => a | _ => .skip
theorem q89o1 : ∀ m vs K, L89o1 (m + 1) vs K = denK C89 (lkS ST89) b89o1 2 (fillS T89o1 vs) (loopK T89o1 (L89o1 m) K) := fun m vs K => by kernel_rfl
theorem o89o1 : SumOk C89 KK (sumT T89o1 (L89o1 KK)) (.loop b89o1) := loop_ok T89o1 L89o1 (sums_of (t := ST89) ⟨fun _ _ h => absurd h (by decide), trivial⟩) (fun _ _ => rfl) q89o1
theorem r89 : ∀ vs, tw89 vs = bodyK C89 (lkS ST89) Try.f89 (sig 89) c89 (fillAs A89 0 vs) := fun vs => by kernel_rfl
theorem ok89 : OkS sig (Gd G dep (dep 89)) 89 th89 := fun xs q h => body_ok Try.func89 (c := c89) rfl A89 tw89 (sums_of (C := C89) (t := ST89) ⟨sum_in (c' := .loop b89o1) (by kernel_rfl) (o89o1), trivial⟩) r89 (by rw [← tpw89]; exact opt_gOf h)
noncomputable def C53 : Ctx := ⟨Try.prog, sig, Gd G dep (dep 53), (sig 53).keep, (sig 53).ord⟩
noncomputable def c53 : Code := Try.f53.body.getD .skip
def ST53 : List (Nat × (St → Cont (List DV × List (List D)) → Rs)) := []
theorem r53 : ∀ vs, tw53 vs = bodyK C53 (lkS ST53) Try.f53 (sig 53) c53 (fillAs A53 0 vs) := fun vs => by kernel_rfl
theorem ok53 : OkS sig (Gd G dep (dep 53)) 53 th53 := fun xs q h => body_ok Try.func53 (c := c53) rfl A53 tw53 (sums_of (C := C53) (t := ST53) trivial) r53 (by rw [← tpw53]; exact opt_gOf h)
noncomputable def C54 : Ctx := ⟨Try.prog, sig, Gd G dep (dep 54), (sig 54).keep, (sig 54).ord⟩
noncomputable def c54 : Code := Try.f54.body.getD .skip
def ST54 : List (Nat × (St → Cont (List DV × List (List D)) → Rs)) := []
theorem r54 : ∀ vs, tw54 vs = bodyK C54 (lkS ST54) Try.f54 (sig 54) c54 (fillAs A54 0 vs) := fun vs => by kernel_rfl
theorem ok54 : OkS sig (Gd G dep (dep 54)) 54 th54 := fun xs q h => body_ok Try.func54 (c := c54) rfl A54 tw54 (sums_of (C := C54) (t := ST54) trivial) r54 (by rw [← tpw54]; exact opt_gOf h)
noncomputable def C123 : Ctx := ⟨Try.prog, sig, Gd G dep (dep 123), (sig 123).keep, (sig 123).ord⟩
noncomputable def c123 : Code := Try.f123.body.getD .skip
def ST123 : List (Nat × (St → Cont (List DV × List (List D)) → Rs)) := []
theorem r123 : ∀ vs, tw123 vs = bodyK C123 (lkS ST123) Try.f123 (sig 123) c123 (fillAs A123 0 vs) := fun vs => by kernel_rfl
theorem ok123 : OkS sig (Gd G dep (dep 123)) 123 th123 := fun xs q h => body_ok Try.func123 (c := c123) rfl A123 tw123 (sums_of (C := C123) (t := ST123) trivial) r123 (by rw [← tpw123]; exact opt_gOf h)
noncomputable def C90 : Ctx := ⟨Try.prog, sig, Gd G dep (dep 90), (sig 90).keep, (sig 90).ord⟩
noncomputable def c90 : Code := Try.f90.body.getD .skip
def ST90 : List (Nat × (St → Cont (List DV × List (List D)) → Rs)) := []
theorem r90 : ∀ vs, tw90 vs = bodyK C90 (lkS ST90) Try.f90 (sig 90) c90 (fillAs A90 0 vs) := fun vs => by kernel_rfl
theorem ok90 : OkS sig (Gd G dep (dep 90)) 90 th90 := fun xs q h => body_ok Try.func90 (c := c90) rfl A90 tw90 (sums_of (C := C90) (t := ST90) trivial) r90 (by rw [← tpw90]; exact opt_gOf h)
noncomputable def C55 : Ctx := ⟨Try.prog, sig, Gd G dep (dep 55), (sig 55).keep, (sig 55).ord⟩
noncomputable def c55 : Code := Try.f55.body.getD .skip
def T55o1 : TSt := ⟨[dL, dI, dI, dI, dB, .any, .any], []⟩
def X55o1e1 : TSt := ⟨[dL, dI, dI, dI, dB, dB, dB], []⟩
def X55o1e2 : TSt := ⟨[dL, dI, dI, dI, dB, dB, .any], []⟩
def L55o1 (m : Nat) (vs : List Vr) (K : Cont (List DV × List (List D))) : Rs := la55o1 tu90 (vL vs 0) (vI vs 2) (vB vs 4) (fun n22 n23 b24 b25 => K .ret (fillS X55o1e1 [.l (vL vs 0), .i (n22), .i ((-1 : Int)), .i (n23), .b (vB vs 4), .b (b24), .b (b25)])) (fun n26 n27 b28 v29 => K (.exit 0) (fillS X55o1e2 [.l (vL vs 0), .i (n26), .i (vI vs 2), .i (n27), .b (vB vs 4), .b (b28), .v (v29)])) m (vI vs 1) (vI vs 3) (vV vs 5) (vV vs 6)
def ST55 : List (Nat × (St → Cont (List DV × List (List D)) → Rs)) := [(1, sumT T55o1 (L55o1 KK))]
noncomputable def b55o1 : Code := match nodeAt c55 1 with | some (.loop a) => a | _ => .skip
theorem q55o1 : ∀ m vs K, L55o1 (m + 1) vs K = denK C55 (lkS ST55) b55o1 2 (fillS T55o1 vs) (loopK T55o1 (L55o1 m) K) := fun m vs K => by kernel_rfl
theorem o55o1 : SumOk C55 KK (sumT T55o1 (L55o1 KK)) (.loop b55o1) := loop_ok T55o1 L55o1 (sums_of (t := ST55) ⟨fun _ _ h => absurd h (by decide), trivial⟩) (fun _ _ => rfl) q55o1
theorem r55 : ∀ vs, tw55 vs = bodyK C55 (lkS ST55) Try.f55 (sig 55) c55 (fillAs A55 0 vs) := fun vs => by kernel_rfl
theorem ok55 : OkS sig (Gd G dep (dep 55)) 55 th55 := fun xs q h => body_ok Try.func55 (c := c55) rfl A55 tw55 (sums_of (C := C55) (t := ST55) ⟨sum_in (c' := .loop b55o1) (by kernel_rfl) (o55o1), trivial⟩) r55 (by rw [← tpw55]; exact opt_gOf h)
noncomputable def C22 : Ctx := ⟨Try.prog, sig, Gd G dep (dep 22), (sig 22).keep, (sig 22).ord⟩
noncomputable def c22 : Code := Try.f22.body.getD .skip
def ST22 : List (Nat × (St → Cont (List DV × List (List D)) → Rs)) := []
theorem r22 : ∀ vs, tw22 vs = bodyK C22 (lkS ST22) Try.f22 (sig 22) c22 (fillAs A22 0 vs) := fun vs => by kernel_rfl
theorem ok22 : OkS sig (Gd G dep (dep 22)) 22 th22 := fun xs q h => body_ok Try.func22 (c := c22) rfl A22 tw22 (sums_of (C := C22) (t := ST22) trivial) r22 (by rw [← tpw22]; exact opt_gOf h)
noncomputable def C145 : Ctx := ⟨Try.prog, sig, Gd G dep (dep 145), (sig 145).keep, (sig 145).ord⟩
noncomputable def c145 : Code := Try.f145.body.getD .skip
def ST145 : List (Nat × (St → Cont (List DV × List (List D)) → Rs)) := []
theorem r145 : ∀ vs, tw145 vs = bodyK C145 (lkS ST145) Try.f145 (sig 145) c145 (fillAs A145 0 vs) := fun vs => by kernel_rfl
theorem ok145 : OkS sig (Gd G dep (dep 145)) 145 th145 := fun xs q h => body_ok Try.func145 (c := c145) rfl A145 tw145 (sums_of (C := C145) (t := ST145) trivial) r145 (by rw [← tpw145]; exact opt_gOf h)
noncomputable def C140 : Ctx := ⟨Try.prog, sig, Gd G dep (dep 140), (sig 140).keep, (sig 140).ord⟩
noncomputable def c140 : Code := Try.f140.body.getD .skip
def T140o0 : TSt := ⟨[dL, .nils, .own 448, dI, .any], [(448, .row 129 2)]⟩
def X140o0e1 : TSt := ⟨[dL, .nils, .own 448, dI, dB], [(448, .row 129 2)]⟩
def L140o0 (m : Nat) (vs : List Vr) (K : Cont (List DV × List (List D))) : Rs := la140o0 tu145 (vL vs 0) (fun n13 b14 l15 => K (.exit 0) (fillS X140o0e1 [.l (vL vs 0), .i (n13), .b (b14), .l (l15)])) m (vI vs 1) (vV vs 2) (vL vs 3)
def ST140 : List (Nat × (St → Cont (List DV × List (List D)) → Rs)) := [(0, sumT T140o0 (L140o0 KK))]
noncomputable def b140o0 : Code := match nodeAt c140 0 with | some (.loop a) => a | _ => .skip
theorem q140o0 : ∀ m vs K, L140o0 (m + 1) vs K = denK C140 (lkS ST140) b140o0 1 (fillS T140o0 vs) (loopK T140o0 (L140o0 m) K) := fun m vs K => by kernel_rfl
theorem o140o0 : SumOk C140 KK (sumT T140o0 (L140o0 KK)) (.loop b140o0) := loop_ok T140o0 L140o0 (sums_of (t := ST140) ⟨fun _ _ h => absurd h (by decide), trivial⟩) (fun _ _ => rfl) q140o0
theorem r140 : ∀ vs, tw140 vs = bodyK C140 (lkS ST140) Try.f140 (sig 140) c140 (fillAs A140 0 vs) := fun vs => by kernel_rfl
theorem ok140 : OkS sig (Gd G dep (dep 140)) 140 th140 := fun xs q h => body_ok Try.func140 (c := c140) rfl A140 tw140 (sums_of (C := C140) (t := ST140) ⟨sum_in (c' := .loop b140o0) (by kernel_rfl) (o140o0), trivial⟩) r140 (by rw [← tpw140]; exact opt_gOf h)
noncomputable def C128 : Ctx := ⟨Try.prog, sig, Gd G dep (dep 128), (sig 128).keep, (sig 128).ord⟩
noncomputable def c128 : Code := Try.f128.body.getD .skip
def ST128 : List (Nat × (St → Cont (List DV × List (List D)) → Rs)) := []
theorem r128 : ∀ vs, tw128 vs = bodyK C128 (lkS ST128) Try.f128 (sig 128) c128 (fillAs A128 0 vs) := fun vs => by kernel_rfl
theorem ok128 : OkS sig (Gd G dep (dep 128)) 128 th128 := fun xs q h => body_ok Try.func128 (c := c128) rfl A128 tw128 (sums_of (C := C128) (t := ST128) trivial) r128 (by rw [← tpw128]; exact opt_gOf h)
noncomputable def C96 : Ctx := ⟨Try.prog, sig, Gd G dep (dep 96), (sig 96).keep, (sig 96).ord⟩
noncomputable def c96 : Code := Try.f96.body.getD .skip
def T96o0 : TSt := ⟨[dL, .nils, .own 448, dI, .any], [(448, .row 64 9)]⟩
def X96o0e1 : TSt := ⟨[dL, .nils, .own 448, dI, dB], [(448, .row 64 9)]⟩
def L96o0 (m : Nat) (vs : List Vr) (K : Cont (List DV × List (List D))) : Rs := la96o0 tu128 (vL vs 0) (fun n13 b14 l15 => K (.exit 0) (fillS X96o0e1 [.l (vL vs 0), .i (n13), .b (b14), .l (l15)])) m (vI vs 1) (vV vs 2) (vL vs 3)
def ST96 : List (Nat × (St → Cont (List DV × List (List D)) → Rs)) := [(0, sumT T96o0 (L96o0 KK))]
noncomputable def b96o0 : Code := match nodeAt c96 0 with | some (.loop a) => a | _ => .skip
theorem q96o0 : ∀ m vs K, L96o0 (m + 1) vs K = denK C96 (lkS ST96) b96o0 1 (fillS T96o0 vs) (loopK T96o0 (L96o0 m) K) := fun m vs K => by kernel_rfl
theorem o96o0 : SumOk C96 KK (sumT T96o0 (L96o0 KK)) (.loop b96o0) := loop_ok T96o0 L96o0 (sums_of (t := ST96) ⟨fun _ _ h => absurd h (by decide), trivial⟩) (fun _ _ => rfl) q96o0
theorem r96 : ∀ vs, tw96 vs = bodyK C96 (lkS ST96) Try.f96 (sig 96) c96 (fillAs A96 0 vs) := fun vs => by kernel_rfl
theorem ok96 : OkS sig (Gd G dep (dep 96)) 96 th96 := fun xs q h => body_ok Try.func96 (c := c96) rfl A96 tw96 (sums_of (C := C96) (t := ST96) ⟨sum_in (c' := .loop b96o0) (by kernel_rfl) (o96o0), trivial⟩) r96 (by rw [← tpw96]; exact opt_gOf h)
noncomputable def C60 : Ctx := ⟨Try.prog, sig, Gd G dep (dep 60), (sig 60).keep, (sig 60).ord⟩
noncomputable def c60 : Code := Try.f60.body.getD .skip
def ST60 : List (Nat × (St → Cont (List DV × List (List D)) → Rs)) := []
theorem r60 : ∀ vs, tw60 vs = bodyK C60 (lkS ST60) Try.f60 (sig 60) c60 (fillAs A60 0 vs) := fun vs => by kernel_rfl
theorem ok60 : OkS sig (Gd G dep (dep 60)) 60 th60 := fun xs q h => body_ok Try.func60 (c := c60) rfl A60 tw60 (sums_of (C := C60) (t := ST60) trivial) r60 (by rw [← tpw60]; exact opt_gOf h)
noncomputable def C97 : Ctx := ⟨Try.prog, sig, Gd G dep (dep 97), (sig 97).keep, (sig 97).ord⟩
noncomputable def c97 : Code := Try.f97.body.getD .skip
def ST97 : List (Nat × (St → Cont (List DV × List (List D)) → Rs)) := []
theorem r97 : ∀ vs, tw97 vs = bodyK C97 (lkS ST97) Try.f97 (sig 97) c97 (fillAs A97 0 vs) := fun vs => by kernel_rfl
theorem ok97 : OkS sig (Gd G dep (dep 97)) 97 th97 := fun xs q h => body_ok Try.func97 (c := c97) rfl A97 tw97 (sums_of (C := C97) (t := ST97) trivial) r97 (by rw [← tpw97]; exact opt_gOf h)
noncomputable def C61 : Ctx := ⟨Try.prog, sig, Gd G dep (dep 61), (sig 61).keep, (sig 61).ord⟩
noncomputable def c61 : Code := Try.f61.body.getD .skip
def T61o0 : TSt := ⟨[dL, .nils, .own 448, dI, .any], [(448, .row 90 5)]⟩
def X61o0e1 : TSt := ⟨[dL, .nils, .own 448, dI, dB], [(448, .row 90 5)]⟩
def L61o0 (m : Nat) (vs : List Vr) (K : Cont (List DV × List (List D))) : Rs := la61o0 tu97 (vL vs 0) (fun n13 b14 l15 => K (.exit 0) (fillS X61o0e1 [.l (vL vs 0), .i (n13), .b (b14), .l (l15)])) m (vI vs 1) (vV vs 2) (vL vs 3)
def ST61 : List (Nat × (St → Cont (List DV × List (List D)) → Rs)) := [(0, sumT T61o0 (L61o0 KK))]
noncomputable def b61o0 : Code := match nodeAt c61 0 with | some (.loop a) => a | _ => .skip
theorem q61o0 : ∀ m vs K, L61o0 (m + 1) vs K = denK C61 (lkS ST61) b61o0 1 (fillS T61o0 vs) (loopK T61o0 (L61o0 m) K) := fun m vs K => by kernel_rfl
theorem o61o0 : SumOk C61 KK (sumT T61o0 (L61o0 KK)) (.loop b61o0) := loop_ok T61o0 L61o0 (sums_of (t := ST61) ⟨fun _ _ h => absurd h (by decide), trivial⟩) (fun _ _ => rfl) q61o0
theorem r61 : ∀ vs, tw61 vs = bodyK C61 (lkS ST61) Try.f61 (sig 61) c61 (fillAs A61 0 vs) := fun vs => by kernel_rfl
theorem ok61 : OkS sig (Gd G dep (dep 61)) 61 th61 := fun xs q h => body_ok Try.func61 (c := c61) rfl A61 tw61 (sums_of (C := C61) (t := ST61) ⟨sum_in (c' := .loop b61o0) (by kernel_rfl) (o61o0), trivial⟩) r61 (by rw [← tpw61]; exact opt_gOf h)
noncomputable def C129 : Ctx := ⟨Try.prog, sig, Gd G dep (dep 129), (sig 129).keep, (sig 129).ord⟩
noncomputable def c129 : Code := Try.f129.body.getD .skip
def ST129 : List (Nat × (St → Cont (List DV × List (List D)) → Rs)) := []
theorem r129 : ∀ vs, tw129 vs = bodyK C129 (lkS ST129) Try.f129 (sig 129) c129 (fillAs A129 0 vs) := fun vs => by kernel_rfl
theorem ok129 : OkS sig (Gd G dep (dep 129)) 129 th129 := fun xs q h => body_ok Try.func129 (c := c129) rfl A129 tw129 (sums_of (C := C129) (t := ST129) trivial) r129 (by rw [← tpw129]; exact opt_gOf h)
noncomputable def C98 : Ctx := ⟨Try.prog, sig, Gd G dep (dep 98), (sig 98).keep, (sig 98).ord⟩
noncomputable def c98 : Code := Try.f98.body.getD .skip
def ST98 : List (Nat × (St → Cont (List DV × List (List D)) → Rs)) := []
theorem r98 : ∀ vs, tw98 vs = bodyK C98 (lkS ST98) Try.f98 (sig 98) c98 (fillAs A98 0 vs) := fun vs => by kernel_rfl
theorem ok98 : OkS sig (Gd G dep (dep 98)) 98 th98 := fun xs q h => body_ok Try.func98 (c := c98) rfl A98 tw98 (sums_of (C := C98) (t := ST98) trivial) r98 (by rw [← tpw98]; exact opt_gOf h)
noncomputable def C62 : Ctx := ⟨Try.prog, sig, Gd G dep (dep 62), (sig 62).keep, (sig 62).ord⟩
noncomputable def c62 : Code := Try.f62.body.getD .skip
def T62o0 : TSt := ⟨[dL, .nils, .own 448, dI, .any], [(448, .row 81 5)]⟩
def X62o0e1 : TSt := ⟨[dL, .nils, .own 448, dI, dB], [(448, .row 81 5)]⟩
def L62o0 (m : Nat) (vs : List Vr) (K : Cont (List DV × List (List D))) : Rs := la62o0 tu98 (vL vs 0) (fun n13 b14 l15 => K (.exit 0) (fillS X62o0e1 [.l (vL vs 0), .i (n13), .b (b14), .l (l15)])) m (vI vs 1) (vV vs 2) (vL vs 3)
def ST62 : List (Nat × (St → Cont (List DV × List (List D)) → Rs)) := [(0, sumT T62o0 (L62o0 KK))]
noncomputable def b62o0 : Code := match nodeAt c62 0 with | some (.loop a) => a | _ => .skip
theorem q62o0 : ∀ m vs K, L62o0 (m + 1) vs K = denK C62 (lkS ST62) b62o0 1 (fillS T62o0 vs) (loopK T62o0 (L62o0 m) K) := fun m vs K => by kernel_rfl
theorem o62o0 : SumOk C62 KK (sumT T62o0 (L62o0 KK)) (.loop b62o0) := loop_ok T62o0 L62o0 (sums_of (t := ST62) ⟨fun _ _ h => absurd h (by decide), trivial⟩) (fun _ _ => rfl) q62o0
theorem r62 : ∀ vs, tw62 vs = bodyK C62 (lkS ST62) Try.f62 (sig 62) c62 (fillAs A62 0 vs) := fun vs => by kernel_rfl
theorem ok62 : OkS sig (Gd G dep (dep 62)) 62 th62 := fun xs q h => body_ok Try.func62 (c := c62) rfl A62 tw62 (sums_of (C := C62) (t := ST62) ⟨sum_in (c' := .loop b62o0) (by kernel_rfl) (o62o0), trivial⟩) r62 (by rw [← tpw62]; exact opt_gOf h)
noncomputable def C24 : Ctx := ⟨Try.prog, sig, Gd G dep (dep 24), (sig 24).keep, (sig 24).ord⟩
noncomputable def c24 : Code := Try.f24.body.getD .skip
def ST24 : List (Nat × (St → Cont (List DV × List (List D)) → Rs)) := []
theorem r24 : ∀ vs, tw24 vs = bodyK C24 (lkS ST24) Try.f24 (sig 24) c24 (fillAs A24 0 vs) := fun vs => by kernel_rfl
theorem ok24 : OkS sig (Gd G dep (dep 24)) 24 th24 := fun xs q h => body_ok Try.func24 (c := c24) rfl A24 tw24 (sums_of (C := C24) (t := ST24) trivial) r24 (by rw [← tpw24]; exact opt_gOf h)
noncomputable def C57 : Ctx := ⟨Try.prog, sig, Gd G dep (dep 57), (sig 57).keep, (sig 57).ord⟩
noncomputable def c57 : Code := Try.f57.body.getD .skip
def ST57 : List (Nat × (St → Cont (List DV × List (List D)) → Rs)) := []
theorem r57 : ∀ vs, tw57 vs = bodyK C57 (lkS ST57) Try.f57 (sig 57) c57 (fillAs A57 0 vs) := fun vs => by kernel_rfl
theorem ok57 : OkS sig (Gd G dep (dep 57)) 57 th57 := fun xs q h => body_ok Try.func57 (c := c57) rfl A57 tw57 (sums_of (C := C57) (t := ST57) trivial) r57 (by rw [← tpw57]; exact opt_gOf h)
noncomputable def C139 : Ctx := ⟨Try.prog, sig, Gd G dep (dep 139), (sig 139).keep, (sig 139).ord⟩
noncomputable def c139 : Code := Try.f139.body.getD .skip
def ST139 : List (Nat × (St → Cont (List DV × List (List D)) → Rs)) := []
theorem r139 : ∀ vs, tw139 vs = bodyK C139 (lkS ST139) Try.f139 (sig 139) c139 (fillAs A139 0 vs) := fun vs => by kernel_rfl
theorem ok139 : OkS sig (Gd G dep (dep 139)) 139 th139 := fun xs q h => body_ok Try.func139 (c := c139) rfl A139 tw139 (sums_of (C := C139) (t := ST139) trivial) r139 (by rw [← tpw139]; exact opt_gOf h)
noncomputable def C124 : Ctx := ⟨Try.prog, sig, Gd G dep (dep 124), (sig 124).keep, (sig 124).ord⟩
noncomputable def c124 : Code := Try.f124.body.getD .skip
def T124o1 : TSt := ⟨[dS, dB, dI, dB, .any, .any], []⟩
def X124o1e1 : TSt := ⟨[dS, dB, dI, dB, dB, dB], []⟩
def X124o1e2 : TSt := ⟨[dS, dB, dI, dB, dB, .any], []⟩
def L124o1 (m : Nat) (vs : List Vr) (K : Cont (List DV × List (List D))) : Rs := la124o1 tu57 tu139 (vS vs 0) (vB vs 1) (vB vs 3) (fun n18 b19 b20 => K .ret (fillS X124o1e1 [.s (vS vs 0), .b (false), .i (n18), .b (vB vs 3), .b (b19), .b (b20)])) (fun n21 b22 v23 => K (.exit 0) (fillS X124o1e2 [.s (vS vs 0), .b (vB vs 1), .i (n21), .b (vB vs 3), .b (b22), .v (v23)])) m (vI vs 2) (vV vs 4) (vV vs 5)
def ST124 : List (Nat × (St → Cont (List DV × List (List D)) → Rs)) := [(1, sumT T124o1 (L124o1 KK))]
noncomputable def b124o1 : Code := match nodeAt c124 1 with | some (.loop a) => a | _ => .skip
theorem q124o1 : ∀ m vs K, L124o1 (m + 1) vs K = denK C124 (lkS ST124) b124o1 2 (fillS T124o1 vs) (loopK T124o1 (L124o1 m) K) := fun m vs K => by kernel_rfl
theorem o124o1 : SumOk C124 KK (sumT T124o1 (L124o1 KK)) (.loop b124o1) := loop_ok T124o1 L124o1 (sums_of (t := ST124) ⟨fun _ _ h => absurd h (by decide), trivial⟩) (fun _ _ => rfl) q124o1
theorem r124 : ∀ vs, tw124 vs = bodyK C124 (lkS ST124) Try.f124 (sig 124) c124 (fillAs A124 0 vs) := fun vs => by kernel_rfl
theorem ok124 : OkS sig (Gd G dep (dep 124)) 124 th124 := fun xs q h => body_ok Try.func124 (c := c124) rfl A124 tw124 (sums_of (C := C124) (t := ST124) ⟨sum_in (c' := .loop b124o1) (by kernel_rfl) (o124o1), trivial⟩) r124 (by rw [← tpw124]; exact opt_gOf h)
noncomputable def C125 : Ctx := ⟨Try.prog, sig, Gd G dep (dep 125), (sig 125).keep, (sig 125).ord⟩
noncomputable def c125 : Code := Try.f125.body.getD .skip
def T125o1 : TSt := ⟨[dS, dB, dI, dB, .any, .any], []⟩
def X125o1e1 : TSt := ⟨[dS, dB, dI, dB, dB, dB], []⟩
def X125o1e2 : TSt := ⟨[dS, dB, dI, dB, dB, .any], []⟩
def L125o1 (m : Nat) (vs : List Vr) (K : Cont (List DV × List (List D))) : Rs := la125o1 tu57 tu139 (vS vs 0) (vB vs 1) (vB vs 3) (fun n18 b19 b20 => K .ret (fillS X125o1e1 [.s (vS vs 0), .b (false), .i (n18), .b (vB vs 3), .b (b19), .b (b20)])) (fun n21 b22 v23 => K (.exit 0) (fillS X125o1e2 [.s (vS vs 0), .b (vB vs 1), .i (n21), .b (vB vs 3), .b (b22), .v (v23)])) m (vI vs 2) (vV vs 4) (vV vs 5)
def ST125 : List (Nat × (St → Cont (List DV × List (List D)) → Rs)) := [(1, sumT T125o1 (L125o1 KK))]
noncomputable def b125o1 : Code := match nodeAt c125 1 with | some (.loop a) => a | _ => .skip
theorem q125o1 : ∀ m vs K, L125o1 (m + 1) vs K = denK C125 (lkS ST125) b125o1 2 (fillS T125o1 vs) (loopK T125o1 (L125o1 m) K) := fun m vs K => by kernel_rfl
theorem o125o1 : SumOk C125 KK (sumT T125o1 (L125o1 KK)) (.loop b125o1) := loop_ok T125o1 L125o1 (sums_of (t := ST125) ⟨fun _ _ h => absurd h (by decide), trivial⟩) (fun _ _ => rfl) q125o1
theorem r125 : ∀ vs, tw125 vs = bodyK C125 (lkS ST125) Try.f125 (sig 125) c125 (fillAs A125 0 vs) := fun vs => by kernel_rfl
theorem ok125 : OkS sig (Gd G dep (dep 125)) 125 th125 := fun xs q h => body_ok Try.func125 (c := c125) rfl A125 tw125 (sums_of (C := C125) (t := ST125) ⟨sum_in (c' := .loop b125o1) (by kernel_rfl) (o125o1), trivial⟩) r125 (by rw [← tpw125]; exact opt_gOf h)
noncomputable def C126 : Ctx := ⟨Try.prog, sig, Gd G dep (dep 126), (sig 126).keep, (sig 126).ord⟩
noncomputable def c126 : Code := Try.f126.body.getD .skip
def T126o0 : TSt := ⟨[.agg [dI, dL], dI, .ptr 128 0, dI, dI, .any, .any], [(128, .box [dI, dL])]⟩
def X126o0e1 : TSt := ⟨[.agg [dI, dL], dI, .ptr 128 0, dI, dI, dB, dB], [(128, .box [dI, dL])]⟩
def X126o0e2 : TSt := ⟨[.agg [dI, dL], dI, .ptr 128 0, dI, dI, dB, .any], [(128, .box [dI, dL])]⟩
def L126o0 (m : Nat) (vs : List Vr) (K : Cont (List DV × List (List D))) : Rs := l126o0 (vI vs 0) (vL vs 1) (vI vs 2) (vI vs 3) (vI vs 7) (vL vs 8) (fun n29 b30 b31 => K .ret (fillS X126o0e1 [.i (vI vs 0), .l (vL vs 1), .i (vI vs 2), .i (n29), .i (n29), .b (b30), .b (b31), .i (vI vs 7), .l (vL vs 8)])) (fun n32 b33 v34 => K (.exit 0) (fillS X126o0e2 [.i (vI vs 0), .l (vL vs 1), .i (vI vs 2), .i (vI vs 3), .i (n32), .b (b33), .v (v34), .i (vI vs 7), .l (vL vs 8)])) m (vI vs 4) (vV vs 5) (vV vs 6)
def ST126 : List (Nat × (St → Cont (List DV × List (List D)) → Rs)) := [(0, sumT T126o0 (L126o0 KK))]
noncomputable def b126o0 : Code := match nodeAt c126 0 with | some (.loop a) => a | _ => .skip
theorem q126o0 : ∀ m vs K, L126o0 (m + 1) vs K = denK C126 (lkS ST126) b126o0 1 (fillS T126o0 vs) (loopK T126o0 (L126o0 m) K) := fun m vs K => by kernel_rfl
theorem o126o0 : SumOk C126 KK (sumT T126o0 (L126o0 KK)) (.loop b126o0) := loop_ok T126o0 L126o0 (sums_of (t := ST126) ⟨fun _ _ h => absurd h (by decide), trivial⟩) (fun _ _ => rfl) q126o0
theorem r126 : ∀ vs, tw126 vs = bodyK C126 (lkS ST126) Try.f126 (sig 126) c126 (fillAs A126 0 vs) := fun vs => by kernel_rfl
theorem ok126 : OkS sig (Gd G dep (dep 126)) 126 th126 := fun xs q h => body_ok Try.func126 (c := c126) rfl A126 tw126 (sums_of (C := C126) (t := ST126) ⟨sum_in (c' := .loop b126o0) (by kernel_rfl) (o126o0), trivial⟩) r126 (by rw [← tpw126]; exact opt_gOf h)
noncomputable def C91 : Ctx := ⟨Try.prog, sig, Gd G dep (dep 91), (sig 91).keep, (sig 91).ord⟩
noncomputable def c91 : Code := Try.f91.body.getD .skip
def T91o5 : TSt := ⟨[.agg [dI, dL], .agg [dI, dI, dI, dI, dI, dS, dL, dI, dI], .ptr 128 0, .ptr 192 0, dB, dB, dI, .undef, dB, dI, dB, dB, dB, dB, .any, .any], [(128, .box [dI, dL]), (192, .box [dI, dI, dI, dI, dI, dS, dL, dI, dI])]⟩
def X91o5e1 : TSt := ⟨[.agg [dI, dL], .agg [dI, dI, dI, dI, dI, dS, dL, dI, dI], .ptr 128 0, .ptr 192 0, dB, dB, dI, .ptr 448 0, dB, dI, dB, dB, dB, dB, dB, dB], [(128, .box [dI, dL]), (192, .box [dI, dI, dI, dI, dI, dS, dL, dI, dI]), (448, .box [dS, dI])]⟩
def X91o5e2 : TSt := ⟨[.agg [dI, dL], .agg [dI, dI, dI, dI, dI, dS, dL, dI, dI], .ptr 128 0, .ptr 192 0, dB, dB, dI, .undef, dB, dI, dB, dB, dB, dB, dB, .any], [(128, .box [dI, dL]), (192, .box [dI, dI, dI, dI, dI, dS, dL, dI, dI])]⟩
def L91o5 (m : Nat) (vs : List Vr) (K : Cont (List DV × List (List D))) : Rs := la91o5 tu57 tu124 tu125 tu126 (vI vs 0) (vL vs 1) (vI vs 2) (vI vs 3) (vI vs 4) (vI vs 5) (vI vs 6) (vS vs 7) (vL vs 8) (vI vs 9) (vI vs 10) (vB vs 11) (vB vs 12) (vB vs 14) (vI vs 15) (vB vs 16) (vB vs 17) (vB vs 18) (vB vs 19) (vI vs 22) (vL vs 23) (vI vs 24) (vI vs 25) (vI vs 26) (vI vs 27) (vI vs 28) (vS vs 29) (vL vs 30) (vI vs 31) (vI vs 32) (fun n109 b110 b111 s112 n113 => K .ret (fillS X91o5e1 [.i (vI vs 0), .l (vL vs 1), .i (vI vs 2), .i (vI vs 3), .i (vI vs 4), .i (vI vs 5), .i (vI vs 6), .s (vS vs 7), .l (vL vs 8), .i (vI vs 9), .i (vI vs 10), .b (false), .b (vB vs 12), .i (n109), .b (vB vs 14), .i (vI vs 15), .b (vB vs 16), .b (vB vs 17), .b (vB vs 18), .b (vB vs 19), .b (b110), .b (b111), .i (vI vs 22), .l (vL vs 23), .i (vI vs 24), .i (vI vs 25), .i (vI vs 26), .i (vI vs 27), .i (vI vs 28), .s (vS vs 29), .l (vL vs 30), .i (vI vs 31), .i (vI vs 32), .s (s112), .i (n113)])) (fun n114 b115 v116 => K (.exit 1) (fillS X91o5e2 [.i (vI vs 0), .l (vL vs 1), .i (vI vs 2), .i (vI vs 3), .i (vI vs 4), .i (vI vs 5), .i (vI vs 6), .s (vS vs 7), .l (vL vs 8), .i (vI vs 9), .i (vI vs 10), .b (vB vs 11), .b (vB vs 12), .i (n114), .b (vB vs 14), .i (vI vs 15), .b (vB vs 16), .b (vB vs 17), .b (vB vs 18), .b (vB vs 19), .b (b115), .v (v116), .i (vI vs 22), .l (vL vs 23), .i (vI vs 24), .i (vI vs 25), .i (vI vs 26), .i (vI vs 27), .i (vI vs 28), .s (vS vs 29), .l (vL vs 30), .i (vI vs 31), .i (vI vs 32)])) m (vI vs 13) (vV vs 20) (vV vs 21)
def ST91 : List (Nat × (St → Cont (List DV × List (List D)) → Rs)) := [(5, sumT T91o5 (L91o5 KK))]
noncomputable def b91o5 : Code := match nodeAt c91 5 with | some (.loop a) => a | _ => .skip
theorem q91o5 : ∀ m vs K, L91o5 (m + 1) vs K = denK C91 (lkS ST91) b91o5 6 (fillS T91o5 vs) (loopK T91o5 (L91o5 m) K) := fun m vs K => by kernel_rfl
theorem o91o5 : SumOk C91 KK (sumT T91o5 (L91o5 KK)) (.loop b91o5) := loop_ok T91o5 L91o5 (sums_of (t := ST91) ⟨fun _ _ h => absurd h (by decide), trivial⟩) (fun _ _ => rfl) q91o5
theorem r91 : ∀ vs, tw91 vs = bodyK C91 (lkS ST91) Try.f91 (sig 91) c91 (fillAs A91 0 vs) := fun vs => by kernel_rfl
theorem ok91 : OkS sig (Gd G dep (dep 91)) 91 th91 := fun xs q h => body_ok Try.func91 (c := c91) rfl A91 tw91 (sums_of (C := C91) (t := ST91) ⟨sum_in (c' := .loop b91o5) (by kernel_rfl) (o91o5), trivial⟩) r91 (by rw [← tpw91]; exact opt_gOf h)
noncomputable def C92 : Ctx := ⟨Try.prog, sig, Gd G dep (dep 92), (sig 92).keep, (sig 92).ord⟩
noncomputable def c92 : Code := Try.f92.body.getD .skip
def T92o6 : TSt := ⟨[.agg [dI, dL], dI, .ptr 128 0, .nils, .own 960, .own 1216, dI, dI, dI, dI, .any, dB, dB, dB, dB, .any, .any], [(128, .box [dI, dL]), (960, .row 4 1), (1216, .row 4 1)]⟩
def X92o6e1 : TSt := ⟨[.agg [dI, dL], dI, .ptr 128 0, .nils, .own 960, .own 1216, dI, dI, dI, dI, .any, dB, dB, dB, dB, dB, .any], [(128, .box [dI, dL]), (960, .row 4 1), (1216, .row 4 1)]⟩
def L92o6 (m : Nat) (vs : List Vr) (K : Cont (List DV × List (List D))) : Rs := la92o6 tu126 (vI vs 0) (vL vs 1) (vI vs 2) (vI vs 3) (vI vs 4) (vI vs 5) (vB vs 8) (vB vs 9) (vB vs 10) (vB vs 11) (vI vs 14) (vL vs 15) (fun n417 v418 b419 v420 l421 l422 => K (.exit 4) (fillS X92o6e1 [.i (vI vs 0), .l (vL vs 1), .i (vI vs 2), .i (vI vs 3), .i (vI vs 4), .i (vI vs 5), .i (n417), .v (v418), .b (vB vs 8), .b (vB vs 9), .b (vB vs 10), .b (vB vs 11), .b (b419), .v (v420), .i (vI vs 14), .l (vL vs 15), .l (l421), .l (l422)])) m (vI vs 6) (vV vs 7) (vV vs 12) (vV vs 13) (vL vs 16) (vL vs 17)
def T92o3 : TSt := ⟨[.agg [dI, dL], dI, .ptr 128 0, .nils, .own 960, .own 1216, dI, dI, dI, .any, .any, dB, dB, .any, .any, .any, .any], [(128, .box [dI, dL]), (960, .row 4 1), (1216, .row 4 1)]⟩
def X92o3e1 : TSt := ⟨[.agg [dI, dL], dI, .ptr 128 0, .nils, .own 960, .own 1216, dI, dI, dI, .any, .any, dB, dB, dB, .any, .any, .any], [(128, .box [dI, dL]), (960, .row 4 1), (1216, .row 4 1)]⟩
def L92o3 (m : Nat) (vs : List Vr) (K : Cont (List DV × List (List D))) : Rs := la92o3 tu126 (vI vs 0) (vL vs 1) (vI vs 2) (vI vs 3) (vI vs 4) (vB vs 8) (vB vs 9) (vI vs 14) (vL vs 15) (fun n465 v466 v467 b468 v469 v470 v471 l472 l473 => K (.exit 2) (fillS X92o3e1 [.i (vI vs 0), .l (vL vs 1), .i (vI vs 2), .i (vI vs 3), .i (vI vs 4), .i (n465), .v (v466), .v (v467), .b (vB vs 8), .b (vB vs 9), .b (b468), .v (v469), .v (v470), .v (v471), .i (vI vs 14), .l (vL vs 15), .l (l472), .l (l473)])) m (vI vs 5) (vV vs 6) (vV vs 7) (vV vs 10) (vV vs 11) (vV vs 12) (vV vs 13) (vL vs 16) (vL vs 17)
def T92o1 : TSt := ⟨[.agg [dI, dL], dI, .ptr 128 0, .nils, .own 960, .own 1216, dI, dI, .any, .any, .any, dB, .any, .any, .any, .any, .any], [(128, .box [dI, dL]), (960, .row 4 1), (1216, .row 4 1)]⟩
def X92o1e1 : TSt := ⟨[.agg [dI, dL], dI, .ptr 128 0, .nils, .own 960, .own 1216, dI, dI, .any, .any, .any, dB, dB, .any, .any, .any, .any], [(128, .box [dI, dL]), (960, .row 4 1), (1216, .row 4 1)]⟩
def L92o1 (m : Nat) (vs : List Vr) (K : Cont (List DV × List (List D))) : Rs := la92o1 tu126 (vI vs 0) (vL vs 1) (vI vs 2) (vI vs 3) (vB vs 8) (vI vs 14) (vL vs 15) (fun n501 v502 v503 v504 b505 v506 v507 v508 v509 l510 l511 => K (.exit 0) (fillS X92o1e1 [.i (vI vs 0), .l (vL vs 1), .i (vI vs 2), .i (vI vs 3), .i (n501), .v (v502), .v (v503), .v (v504), .b (vB vs 8), .b (b505), .v (v506), .v (v507), .v (v508), .v (v509), .i (vI vs 14), .l (vL vs 15), .l (l510), .l (l511)])) m (vI vs 4) (vV vs 5) (vV vs 6) (vV vs 7) (vV vs 9) (vV vs 10) (vV vs 11) (vV vs 12) (vV vs 13) (vL vs 16) (vL vs 17)
def ST92 : List (Nat × (St → Cont (List DV × List (List D)) → Rs)) := [(6, sumT T92o6 (L92o6 KK)), (3, sumT T92o3 (L92o3 KK)), (1, sumT T92o1 (L92o1 KK))]
noncomputable def b92o6 : Code := match nodeAt c92 6 with | some (.loop a) => a | _ => .skip
noncomputable def b92o3 : Code := match nodeAt c92 3 with | some (.loop a) => a | _ => .skip
noncomputable def b92o1 : Code := match nodeAt c92 1 with | some (.loop a) => a | _ => .skip
theorem q92o6 : ∀ m vs K, L92o6 (m + 1) vs K = denK C92 (lkS ST92) b92o6 7 (fillS T92o6 vs) (loopK T92o6 (L92o6 m) K) := fun m vs K => by kernel_rfl
theorem o92o6 : SumOk C92 KK (sumT T92o6 (L92o6 KK)) (.loop b92o6) := loop_ok T92o6 L92o6 (sums_of (t := ST92) ⟨fun _ _ h => absurd h (by decide), fun _ _ h => absurd h (by decide), fun _ _ h => absurd h (by decide), trivial⟩) (fun _ _ => rfl) q92o6
theorem q92o3 : ∀ m vs K, L92o3 (m + 1) vs K = denK C92 (lkS ST92) b92o3 4 (fillS T92o3 vs) (loopK T92o3 (L92o3 m) K) := fun m vs K => by kernel_rfl
theorem o92o3 : SumOk C92 KK (sumT T92o3 (L92o3 KK)) (.loop b92o3) := loop_ok T92o3 L92o3 (sums_of (t := ST92) ⟨sum_in (c' := .loop b92o6) (by kernel_rfl) (o92o6), fun _ _ h => absurd h (by decide), fun _ _ h => absurd h (by decide), trivial⟩) (fun _ _ => rfl) q92o3
theorem q92o1 : ∀ m vs K, L92o1 (m + 1) vs K = denK C92 (lkS ST92) b92o1 2 (fillS T92o1 vs) (loopK T92o1 (L92o1 m) K) := fun m vs K => by kernel_rfl
theorem o92o1 : SumOk C92 KK (sumT T92o1 (L92o1 KK)) (.loop b92o1) := loop_ok T92o1 L92o1 (sums_of (t := ST92) ⟨sum_in (c' := .loop b92o6) (by kernel_rfl) (o92o6), sum_in (c' := .loop b92o3) (by kernel_rfl) (o92o3), fun _ _ h => absurd h (by decide), trivial⟩) (fun _ _ => rfl) q92o1
theorem r92 : ∀ vs, tw92 vs = bodyK C92 (lkS ST92) Try.f92 (sig 92) c92 (fillAs A92 0 vs) := fun vs => by kernel_rfl
theorem ok92 : OkS sig (Gd G dep (dep 92)) 92 th92 := fun xs q h => body_ok Try.func92 (c := c92) rfl A92 tw92 (sums_of (C := C92) (t := ST92) ⟨sum_in (c' := .loop b92o6) (by kernel_rfl) (o92o6), sum_in (c' := .loop b92o3) (by kernel_rfl) (o92o3), sum_in (c' := .loop b92o1) (by kernel_rfl) (o92o1), trivial⟩) r92 (by rw [← tpw92]; exact opt_gOf h)
noncomputable def C93 : Ctx := ⟨Try.prog, sig, Gd G dep (dep 93), (sig 93).keep, (sig 93).ord⟩
noncomputable def c93 : Code := Try.f93.body.getD .skip
def T93o2 : TSt := ⟨[.agg [dI, dL], dI, .ptr 128 0, dI, dI, dI, dI, dB, .any, .any], [(128, .box [dI, dL])]⟩
def X93o2e1 : TSt := ⟨[.agg [dI, dL], dI, .ptr 128 0, dI, dI, dI, dI, dB, dB, .any], [(128, .box [dI, dL])]⟩
def L93o2 (m : Nat) (vs : List Vr) (K : Cont (List DV × List (List D))) : Rs := l93o2 (vI vs 0) (vL vs 1) (vI vs 2) (vI vs 3) (vI vs 5) (vB vs 7) (vI vs 10) (vL vs 11) (fun n106 n107 b108 v109 => K (.exit 2) (fillS X93o2e1 [.i (vI vs 0), .l (vL vs 1), .i (vI vs 2), .i (vI vs 3), .i (n106), .i (vI vs 5), .i (n107), .b (vB vs 7), .b (b108), .v (v109), .i (vI vs 10), .l (vL vs 11)])) m (vI vs 4) (vI vs 6) (vV vs 8) (vV vs 9)
def T93o0 : TSt := ⟨[.agg [dI, dL], dI, .ptr 128 0, dI, dI, dI, .any, .any, .any, .any], [(128, .box [dI, dL])]⟩
def X93o0e1 : TSt := ⟨[.agg [dI, dL], dI, .ptr 128 0, dI, dI, dI, .any, dB, .any, .any], [(128, .box [dI, dL])]⟩
def L93o0 (m : Nat) (vs : List Vr) (K : Cont (List DV × List (List D))) : Rs := l93o0 (vI vs 0) (vL vs 1) (vI vs 2) (vI vs 3) (vI vs 10) (vL vs 11) (fun n126 n127 v128 b129 v130 v131 => K (.exit 0) (fillS X93o0e1 [.i (vI vs 0), .l (vL vs 1), .i (vI vs 2), .i (vI vs 3), .i (n126), .i (n127), .v (v128), .b (b129), .v (v130), .v (v131), .i (vI vs 10), .l (vL vs 11)])) m (vI vs 4) (vI vs 5) (vV vs 6) (vV vs 7) (vV vs 8) (vV vs 9)
def ST93 : List (Nat × (St → Cont (List DV × List (List D)) → Rs)) := [(2, sumT T93o2 (L93o2 KK)), (0, sumT T93o0 (L93o0 KK))]
noncomputable def b93o2 : Code := match nodeAt c93 2 with | some (.loop a) => a | _ => .skip
noncomputable def b93o0 : Code := match nodeAt c93 0 with | some (.loop a) => a | _ => .skip
theorem q93o2 : ∀ m vs K, L93o2 (m + 1) vs K = denK C93 (lkS ST93) b93o2 3 (fillS T93o2 vs) (loopK T93o2 (L93o2 m) K) := fun m vs K => by kernel_rfl
theorem o93o2 : SumOk C93 KK (sumT T93o2 (L93o2 KK)) (.loop b93o2) := loop_ok T93o2 L93o2 (sums_of (t := ST93) ⟨fun _ _ h => absurd h (by decide), fun _ _ h => absurd h (by decide), trivial⟩) (fun _ _ => rfl) q93o2
theorem q93o0 : ∀ m vs K, L93o0 (m + 1) vs K = denK C93 (lkS ST93) b93o0 1 (fillS T93o0 vs) (loopK T93o0 (L93o0 m) K) := fun m vs K => by kernel_rfl
theorem o93o0 : SumOk C93 KK (sumT T93o0 (L93o0 KK)) (.loop b93o0) := loop_ok T93o0 L93o0 (sums_of (t := ST93) ⟨sum_in (c' := .loop b93o2) (by kernel_rfl) (o93o2), fun _ _ h => absurd h (by decide), trivial⟩) (fun _ _ => rfl) q93o0
theorem r93 : ∀ vs, tw93 vs = bodyK C93 (lkS ST93) Try.f93 (sig 93) c93 (fillAs A93 0 vs) := fun vs => by kernel_rfl
theorem ok93 : OkS sig (Gd G dep (dep 93)) 93 th93 := fun xs q h => body_ok Try.func93 (c := c93) rfl A93 tw93 (sums_of (C := C93) (t := ST93) ⟨sum_in (c' := .loop b93o2) (by kernel_rfl) (o93o2), sum_in (c' := .loop b93o0) (by kernel_rfl) (o93o0), trivial⟩) r93 (by rw [← tpw93]; exact opt_gOf h)
noncomputable def C94 : Ctx := ⟨Try.prog, sig, Gd G dep (dep 94), (sig 94).keep, (sig 94).ord⟩
noncomputable def c94 : Code := Try.f94.body.getD .skip
def T94o0 : TSt := ⟨[.agg [dI, dL], .ptr 64 0, dI, dI, dI, .any], [(64, .box [dI, dL])]⟩
def X94o0e1 : TSt := ⟨[.agg [dI, dL], .ptr 64 0, dI, dI, dI, dB], [(64, .box [dI, dL])]⟩
def L94o0 (m : Nat) (vs : List Vr) (K : Cont (List DV × List (List D))) : Rs := l94o0 (vI vs 0) (vL vs 1) (vI vs 2) (vI vs 6) (vL vs 7) (fun n26 n27 b28 => K (.exit 0) (fillS X94o0e1 [.i (vI vs 0), .l (vL vs 1), .i (vI vs 2), .i (n26), .i (n27), .b (b28), .i (vI vs 6), .l (vL vs 7)])) m (vI vs 3) (vI vs 4) (vV vs 5)
def ST94 : List (Nat × (St → Cont (List DV × List (List D)) → Rs)) := [(0, sumT T94o0 (L94o0 KK))]
noncomputable def b94o0 : Code := match nodeAt c94 0 with | some (.loop a) => a | _ => .skip
theorem q94o0 : ∀ m vs K, L94o0 (m + 1) vs K = denK C94 (lkS ST94) b94o0 1 (fillS T94o0 vs) (loopK T94o0 (L94o0 m) K) := fun m vs K => by kernel_rfl
theorem o94o0 : SumOk C94 KK (sumT T94o0 (L94o0 KK)) (.loop b94o0) := loop_ok T94o0 L94o0 (sums_of (t := ST94) ⟨fun _ _ h => absurd h (by decide), trivial⟩) (fun _ _ => rfl) q94o0
theorem r94 : ∀ vs, tw94 vs = bodyK C94 (lkS ST94) Try.f94 (sig 94) c94 (fillAs A94 0 vs) := fun vs => by kernel_rfl
theorem ok94 : OkS sig (Gd G dep (dep 94)) 94 th94 := fun xs q h => body_ok Try.func94 (c := c94) rfl A94 tw94 (sums_of (C := C94) (t := ST94) ⟨sum_in (c' := .loop b94o0) (by kernel_rfl) (o94o0), trivial⟩) r94 (by rw [← tpw94]; exact opt_gOf h)
noncomputable def C127 : Ctx := ⟨Try.prog, sig, Gd G dep (dep 127), (sig 127).keep, (sig 127).ord⟩
noncomputable def c127 : Code := Try.f127.body.getD .skip
def T127o0 : TSt := ⟨[.agg [dI, dL], dI, .ptr 128 0, dI, dI, .own 768, dI, dI, dI, .any, .any], [(128, .box [dI, dL]), (768, .row 4 1)]⟩
def X127o0e1 : TSt := ⟨[.agg [dI, dL], dI, .ptr 128 0, dI, dI, .own 768, dI, dI, dI, dB, .any], [(128, .box [dI, dL]), (768, .row 4 1)]⟩
def L127o0 (m : Nat) (vs : List Vr) (K : Cont (List DV × List (List D))) : Rs := la127o0 tu92 (vI vs 0) (vL vs 1) (vI vs 2) (vI vs 3) (vI vs 4) (vI vs 10) (vL vs 11) (vL vs 12) (fun n45 n46 n47 b48 v49 => K (.exit 0) (fillS X127o0e1 [.i (vI vs 0), .l (vL vs 1), .i (vI vs 2), .i (vI vs 3), .i (vI vs 4), .i (n45), .i (n46), .i (n47), .b (b48), .v (v49), .i (vI vs 10), .l (vL vs 11), .l (vL vs 12)])) m (vI vs 5) (vI vs 6) (vI vs 7) (vV vs 8) (vV vs 9)
def ST127 : List (Nat × (St → Cont (List DV × List (List D)) → Rs)) := [(0, sumT T127o0 (L127o0 KK))]
noncomputable def b127o0 : Code := match nodeAt c127 0 with | some (.loop a) => a | _ => .skip
theorem q127o0 : ∀ m vs K, L127o0 (m + 1) vs K = denK C127 (lkS ST127) b127o0 1 (fillS T127o0 vs) (loopK T127o0 (L127o0 m) K) := fun m vs K => by kernel_rfl
theorem o127o0 : SumOk C127 KK (sumT T127o0 (L127o0 KK)) (.loop b127o0) := loop_ok T127o0 L127o0 (sums_of (t := ST127) ⟨fun _ _ h => absurd h (by decide), trivial⟩) (fun _ _ => rfl) q127o0
theorem r127 : ∀ vs, tw127 vs = bodyK C127 (lkS ST127) Try.f127 (sig 127) c127 (fillAs A127 0 vs) := fun vs => by kernel_rfl
theorem ok127 : OkS sig (Gd G dep (dep 127)) 127 th127 := fun xs q h => body_ok Try.func127 (c := c127) rfl A127 tw127 (sums_of (C := C127) (t := ST127) ⟨sum_in (c' := .loop b127o0) (by kernel_rfl) (o127o0), trivial⟩) r127 (by rw [← tpw127]; exact opt_gOf h)
noncomputable def C95 : Ctx := ⟨Try.prog, sig, Gd G dep (dep 95), (sig 95).keep, (sig 95).ord⟩
noncomputable def c95 : Code := Try.f95.body.getD .skip
def T95o0 : TSt := ⟨[.agg [dI, dL], .ptr 64 0, dB, dI, .undef, .any, .any, .any, .any, .any], [(64, .box [dI, dL])]⟩
def X95o0e1 : TSt := ⟨[.agg [dI, dL], .ptr 64 0, dB, dI, .ptr 256 0, dI, dI, dB, dB, dB], [(64, .box [dI, dL]), (256, .box [dI, dI, dI, dI, dI, dS, dL, dI, dI])]⟩
def X95o0e2 : TSt := ⟨[.agg [dI, dL], .ptr 64 0, dB, dI, .undef, .any, .any, dB, .any, .any], [(64, .box [dI, dL])]⟩
def L95o0 (m : Nat) (vs : List Vr) (K : Cont (List DV × List (List D))) : Rs := la95o0 tu127 (vI vs 0) (vL vs 1) (vB vs 2) (vI vs 9) (vL vs 10) (fun n42 n43 n44 b45 b46 b47 n48 n49 n50 n51 n52 s53 l54 n55 n56 => K .ret (fillS X95o0e1 [.i (vI vs 0), .l (vL vs 1), .b (true), .i (n42), .i (n43), .i (n44), .b (b45), .b (b46), .b (b47), .i (vI vs 9), .l (vL vs 10), .i (n48), .i (n49), .i (n50), .i (n51), .i (n52), .s (s53), .l (l54), .i (n55), .i (n56)])) (fun n57 v58 v59 b60 v61 v62 => K (.exit 0) (fillS X95o0e2 [.i (vI vs 0), .l (vL vs 1), .b (vB vs 2), .i (n57), .v (v58), .v (v59), .b (b60), .v (v61), .v (v62), .i (vI vs 9), .l (vL vs 10)])) m (vI vs 3) (vV vs 4) (vV vs 5) (vV vs 6) (vV vs 7) (vV vs 8)
def ST95 : List (Nat × (St → Cont (List DV × List (List D)) → Rs)) := [(0, sumT T95o0 (L95o0 KK))]
noncomputable def b95o0 : Code := match nodeAt c95 0 with | some (.loop a) => a | _ => .skip
theorem q95o0 : ∀ m vs K, L95o0 (m + 1) vs K = denK C95 (lkS ST95) b95o0 1 (fillS T95o0 vs) (loopK T95o0 (L95o0 m) K) := fun m vs K => by kernel_rfl
theorem o95o0 : SumOk C95 KK (sumT T95o0 (L95o0 KK)) (.loop b95o0) := loop_ok T95o0 L95o0 (sums_of (t := ST95) ⟨fun _ _ h => absurd h (by decide), trivial⟩) (fun _ _ => rfl) q95o0
theorem r95 : ∀ vs, tw95 vs = bodyK C95 (lkS ST95) Try.f95 (sig 95) c95 (fillAs A95 0 vs) := fun vs => by kernel_rfl
theorem ok95 : OkS sig (Gd G dep (dep 95)) 95 th95 := fun xs q h => body_ok Try.func95 (c := c95) rfl A95 tw95 (sums_of (C := C95) (t := ST95) ⟨sum_in (c' := .loop b95o0) (by kernel_rfl) (o95o0), trivial⟩) r95 (by rw [← tpw95]; exact opt_gOf h)
noncomputable def C56 : Ctx := ⟨Try.prog, sig, Gd G dep (dep 56), (sig 56).keep, (sig 56).ord⟩
noncomputable def c56 : Code := Try.f56.body.getD .skip
def T56o4 : TSt := ⟨[.agg [dI, dL], .ptr 64 0, dB, dI, .undef, .own 4864, dI, dB, dB, .any, .any, .any], [(64, .box [dI, dL]), (4864, .row 4 1)]⟩
def X56o4e1 : TSt := ⟨[.agg [dI, dL], .ptr 64 0, dB, dI, .undef, .own 4864, dI, dB, dB, .any, dB, dB], [(64, .box [dI, dL]), (4864, .row 4 1)]⟩
def X56o4e2 : TSt := ⟨[.agg [dI, dL], .ptr 64 0, dB, dI, .undef, .own 4864, dI, dB, dB, .any, dB, .any], [(64, .box [dI, dL]), (4864, .row 4 1)]⟩
def L56o4 (m : Nat) (vs : List Vr) (K : Cont (List DV × List (List D))) : Rs := la56o4 tu57 tu91 tu92 tu93 tu94 tu95 (vI vs 0) (vL vs 1) (vB vs 2) (vI vs 3) (vB vs 5) (vB vs 6) (vI vs 10) (vL vs 11) (vL vs 12) (fun n95 v96 b97 b98 => K .ret (fillS X56o4e1 [.i (vI vs 0), .l (vL vs 1), .b (false), .i (vI vs 3), .i (n95), .b (vB vs 5), .b (vB vs 6), .v (v96), .b (b97), .b (b98), .i (vI vs 10), .l (vL vs 11), .l (vL vs 12)])) (fun n99 v100 b101 v102 => K (.exit 2) (fillS X56o4e2 [.i (vI vs 0), .l (vL vs 1), .b (vB vs 2), .i (vI vs 3), .i (n99), .b (vB vs 5), .b (vB vs 6), .v (v100), .b (b101), .v (v102), .i (vI vs 10), .l (vL vs 11), .l (vL vs 12)])) m (vI vs 4) (vV vs 7) (vV vs 8) (vV vs 9)
def T56o1 : TSt := ⟨[.agg [dI, dL], .ptr 64 0, dB, dI, .undef, .undef, .undef, dB, .any, .any, .undef, .undef], [(64, .box [dI, dL])]⟩
def X56o1e1 : TSt := ⟨[.agg [dI, dL], .ptr 64 0, dB, dI, .ptr 256 0, .undef, .undef, dB, dB, dB, .undef, .undef], [(64, .box [dI, dL]), (256, .box [dI, dI, dI, dI, dI, dS, dL, dI, dI])]⟩
def X56o1e2 : TSt := ⟨[.agg [dI, dL], .ptr 64 0, dB, dI, .undef, .undef, .undef, dB, dB, .any, .undef, .undef], [(64, .box [dI, dL])]⟩
def L56o1 (m : Nat) (vs : List Vr) (K : Cont (List DV × List (List D))) : Rs := la56o1 tu57 tu91 tu92 tu93 tu94 tu95 (vI vs 0) (vL vs 1) (vB vs 2) (vB vs 4) (vI vs 7) (vL vs 8) (fun n28 b29 b30 n31 n32 n33 n34 n35 s36 l37 n38 n39 => K .ret (fillS X56o1e1 [.i (vI vs 0), .l (vL vs 1), .b (false), .i (n28), .b (vB vs 4), .b (b29), .b (b30), .i (vI vs 7), .l (vL vs 8), .i (n31), .i (n32), .i (n33), .i (n34), .i (n35), .s (s36), .l (l37), .i (n38), .i (n39)])) (fun n40 b41 v42 => K (.exit 0) (fillS X56o1e2 [.i (vI vs 0), .l (vL vs 1), .b (vB vs 2), .i (n40), .b (vB vs 4), .b (b41), .v (v42), .i (vI vs 7), .l (vL vs 8)])) m (vI vs 3) (vV vs 5) (vV vs 6)
def ST56 : List (Nat × (St → Cont (List DV × List (List D)) → Rs)) := [(4, sumT T56o4 (L56o4 KK)), (1, sumT T56o1 (L56o1 KK))]
noncomputable def b56o4 : Code := match nodeAt c56 4 with | some (.loop a) => a | _ => .skip
noncomputable def b56o1 : Code := match nodeAt c56 1 with | some (.loop a) => a | _ => .skip
theorem q56o4 : ∀ m vs K, L56o4 (m + 1) vs K = denK C56 (lkS ST56) b56o4 5 (fillS T56o4 vs) (loopK T56o4 (L56o4 m) K) := fun m vs K => by kernel_rfl
theorem o56o4 : SumOk C56 KK (sumT T56o4 (L56o4 KK)) (.loop b56o4) := loop_ok T56o4 L56o4 (sums_of (t := ST56) ⟨fun _ _ h => absurd h (by decide), fun _ _ h => absurd h (by decide), trivial⟩) (fun _ _ => rfl) q56o4
theorem q56o1 : ∀ m vs K, L56o1 (m + 1) vs K = denK C56 (lkS ST56) b56o1 2 (fillS T56o1 vs) (loopK T56o1 (L56o1 m) K) := fun m vs K => by kernel_rfl
theorem o56o1 : SumOk C56 KK (sumT T56o1 (L56o1 KK)) (.loop b56o1) := loop_ok T56o1 L56o1 (sums_of (t := ST56) ⟨sum_out (by kernel_rfl), fun _ _ h => absurd h (by decide), trivial⟩) (fun _ _ => rfl) q56o1
theorem r56 : ∀ vs, tw56 vs = bodyK C56 (lkS ST56) Try.f56 (sig 56) c56 (fillAs A56 0 vs) := fun vs => by kernel_rfl
theorem ok56 : OkS sig (Gd G dep (dep 56)) 56 th56 := fun xs q h => body_ok Try.func56 (c := c56) rfl A56 tw56 (sums_of (C := C56) (t := ST56) ⟨sum_in (c' := .loop b56o4) (by kernel_rfl) (o56o4), sum_in (c' := .loop b56o1) (by kernel_rfl) (o56o1), trivial⟩) r56 (by rw [← tpw56]; exact opt_gOf h)
noncomputable def C58 : Ctx := ⟨Try.prog, sig, Gd G dep (dep 58), (sig 58).keep, (sig 58).ord⟩
noncomputable def c58 : Code := Try.f58.body.getD .skip
def T58o1 : TSt := ⟨[dL, dB, dI, .undef, dB, .any, .any], []⟩
def X58o1e1 : TSt := ⟨[dL, dB, dI, .ptr 256 0, dB, dB, dB], [(256, .box [dI, dI, dI, dI, dI])]⟩
def X58o1e2 : TSt := ⟨[dL, dB, dI, .undef, dB, dB, .any], []⟩
def L58o1 (m : Nat) (vs : List Vr) (K : Cont (List DV × List (List D))) : Rs := la58o1 tu57 (vL vs 0) (vB vs 1) (vB vs 3) (fun n18 b19 b20 n21 n22 n23 n24 n25 => K .ret (fillS X58o1e1 [.l (vL vs 0), .b (false), .i (n18), .b (vB vs 3), .b (b19), .b (b20), .i (n21), .i (n22), .i (n23), .i (n24), .i (n25)])) (fun n26 b27 v28 => K (.exit 0) (fillS X58o1e2 [.l (vL vs 0), .b (vB vs 1), .i (n26), .b (vB vs 3), .b (b27), .v (v28)])) m (vI vs 2) (vV vs 4) (vV vs 5)
def ST58 : List (Nat × (St → Cont (List DV × List (List D)) → Rs)) := [(1, sumT T58o1 (L58o1 KK))]
noncomputable def b58o1 : Code := match nodeAt c58 1 with | some (.loop a) => a | _ => .skip
theorem q58o1 : ∀ m vs K, L58o1 (m + 1) vs K = denK C58 (lkS ST58) b58o1 2 (fillS T58o1 vs) (loopK T58o1 (L58o1 m) K) := fun m vs K => by kernel_rfl
theorem o58o1 : SumOk C58 KK (sumT T58o1 (L58o1 KK)) (.loop b58o1) := loop_ok T58o1 L58o1 (sums_of (t := ST58) ⟨fun _ _ h => absurd h (by decide), trivial⟩) (fun _ _ => rfl) q58o1
theorem r58 : ∀ vs, tw58 vs = bodyK C58 (lkS ST58) Try.f58 (sig 58) c58 (fillAs A58 0 vs) := fun vs => by kernel_rfl
theorem ok58 : OkS sig (Gd G dep (dep 58)) 58 th58 := fun xs q h => body_ok Try.func58 (c := c58) rfl A58 tw58 (sums_of (C := C58) (t := ST58) ⟨sum_in (c' := .loop b58o1) (by kernel_rfl) (o58o1), trivial⟩) r58 (by rw [← tpw58]; exact opt_gOf h)
noncomputable def C59 : Ctx := ⟨Try.prog, sig, Gd G dep (dep 59), (sig 59).keep, (sig 59).ord⟩
noncomputable def c59 : Code := Try.f59.body.getD .skip
def ST59 : List (Nat × (St → Cont (List DV × List (List D)) → Rs)) := []
theorem r59 : ∀ vs, tw59 vs = bodyK C59 (lkS ST59) Try.f59 (sig 59) c59 (fillAs A59 0 vs) := fun vs => by kernel_rfl
theorem ok59 : OkS sig (Gd G dep (dep 59)) 59 th59 := fun xs q h => body_ok Try.func59 (c := c59) rfl A59 tw59 (sums_of (C := C59) (t := ST59) trivial) r59 (by rw [← tpw59]; exact opt_gOf h)
noncomputable def C23 : Ctx := ⟨Try.prog, sig, Gd G dep (dep 23), (sig 23).keep, (sig 23).ord⟩
noncomputable def c23 : Code := Try.f23.body.getD .skip
def T23o1 : TSt := ⟨[.agg [dI, dL, dI, dL, dL], .ptr 64 0, dB, dI, .undef, dB, .any, .any], [(64, .box [dI, dL, dI, dL, dL])]⟩
def X23o1e1 : TSt := ⟨[.agg [dI, dL, dI, dL, dL], .ptr 64 0, dB, dI, .ptr 256 0, dB, dB, dB], [(64, .box [dI, dL, dI, dL, dL]), (256, .box [dI, dI, dI, dI, dS])]⟩
def X23o1e2 : TSt := ⟨[.agg [dI, dL, dI, dL, dL], .ptr 64 0, dB, dI, .undef, dB, dB, .any], [(64, .box [dI, dL, dI, dL, dL])]⟩
def L23o1 (m : Nat) (vs : List Vr) (K : Cont (List DV × List (List D))) : Rs := la23o1 tu56 tu57 tu58 tu59 (vI vs 0) (vL vs 1) (vI vs 2) (vL vs 3) (vL vs 4) (vB vs 5) (vB vs 7) (vI vs 10) (vL vs 11) (vI vs 12) (vL vs 13) (vL vs 14) (fun n49 b50 b51 n52 n53 n54 n55 s56 => K .ret (fillS X23o1e1 [.i (vI vs 0), .l (vL vs 1), .i (vI vs 2), .l (vL vs 3), .l (vL vs 4), .b (false), .i (n49), .b (vB vs 7), .b (b50), .b (b51), .i (vI vs 10), .l (vL vs 11), .i (vI vs 12), .l (vL vs 13), .l (vL vs 14), .i (n52), .i (n53), .i (n54), .i (n55), .s (s56)])) (fun n57 b58 v59 => K (.exit 0) (fillS X23o1e2 [.i (vI vs 0), .l (vL vs 1), .i (vI vs 2), .l (vL vs 3), .l (vL vs 4), .b (vB vs 5), .i (n57), .b (vB vs 7), .b (b58), .v (v59), .i (vI vs 10), .l (vL vs 11), .i (vI vs 12), .l (vL vs 13), .l (vL vs 14)])) m (vI vs 6) (vV vs 8) (vV vs 9)
def ST23 : List (Nat × (St → Cont (List DV × List (List D)) → Rs)) := [(1, sumT T23o1 (L23o1 KK))]
noncomputable def b23o1 : Code := match nodeAt c23 1 with | some (.loop a) => a | _ => .skip
theorem q23o1 : ∀ m vs K, L23o1 (m + 1) vs K = denK C23 (lkS ST23) b23o1 2 (fillS T23o1 vs) (loopK T23o1 (L23o1 m) K) := fun m vs K => by kernel_rfl
theorem o23o1 : SumOk C23 KK (sumT T23o1 (L23o1 KK)) (.loop b23o1) := loop_ok T23o1 L23o1 (sums_of (t := ST23) ⟨fun _ _ h => absurd h (by decide), trivial⟩) (fun _ _ => rfl) q23o1
theorem r23 : ∀ vs, tw23 vs = bodyK C23 (lkS ST23) Try.f23 (sig 23) c23 (fillAs A23 0 vs) := fun vs => by kernel_rfl
theorem ok23 : OkS sig (Gd G dep (dep 23)) 23 th23 := fun xs q h => body_ok Try.func23 (c := c23) rfl A23 tw23 (sums_of (C := C23) (t := ST23) ⟨sum_in (c' := .loop b23o1) (by kernel_rfl) (o23o1), trivial⟩) r23 (by rw [← tpw23]; exact opt_gOf h)
noncomputable def C111 : Ctx := ⟨Try.prog, sig, Gd G dep (dep 111), (sig 111).keep, (sig 111).ord⟩
noncomputable def c111 : Code := Try.f111.body.getD .skip
def T111o0 : TSt := ⟨[.agg [dI, dL], .ptr 64 0, .ptr 128 0, .ptr 192 0, dI, .undef, .any], [(64, .box [dI, dL]), (128, .box [dI, .nils]), (192, .box [dI, .own 12290]), (12290, .row 64 9)]⟩
def X111o0e1 : TSt := ⟨[.agg [dI, dL], .ptr 64 0, .ptr 128 0, .ptr 192 0, dI, .undef, dB], [(64, .box [dI, dL]), (128, .box [dI, .nils]), (192, .box [dI, .own 12290]), (12290, .row 64 9)]⟩
def L111o0 (m : Nat) (vs : List Vr) (K : Cont (List DV × List (List D))) : Rs := l111o0 (vI vs 0) (vL vs 1) (vI vs 4) (vL vs 5) (vI vs 6) (vI vs 7) (fun n29 b30 l31 => K (.exit 0) (fillS X111o0e1 [.i (vI vs 0), .l (vL vs 1), .i (n29), .b (b30), .i (vI vs 4), .l (vL vs 5), .i (vI vs 6), .i (vI vs 7), .l (l31)])) m (vI vs 2) (vV vs 3) (vL vs 8)
def ST111 : List (Nat × (St → Cont (List DV × List (List D)) → Rs)) := [(0, sumT T111o0 (L111o0 KK))]
noncomputable def b111o0 : Code := match nodeAt c111 0 with | some (.loop a) => a | _ => .skip
theorem q111o0 : ∀ m vs K, L111o0 (m + 1) vs K = denK C111 (lkS ST111) b111o0 1 (fillS T111o0 vs) (loopK T111o0 (L111o0 m) K) := fun m vs K => by kernel_rfl
theorem o111o0 : SumOk C111 KK (sumT T111o0 (L111o0 KK)) (.loop b111o0) := loop_ok T111o0 L111o0 (sums_of (t := ST111) ⟨fun _ _ h => absurd h (by decide), trivial⟩) (fun _ _ => rfl) q111o0
theorem r111 : ∀ vs, tw111 vs = bodyK C111 (lkS ST111) Try.f111 (sig 111) c111 (fillAs A111 0 vs) := fun vs => by kernel_rfl
theorem ok111 : OkS sig (Gd G dep (dep 111)) 111 th111 := fun xs q h => body_ok Try.func111 (c := c111) rfl A111 tw111 (sums_of (C := C111) (t := ST111) ⟨sum_in (c' := .loop b111o0) (by kernel_rfl) (o111o0), trivial⟩) r111 (by rw [← tpw111]; exact opt_gOf h)
noncomputable def C73 : Ctx := ⟨Try.prog, sig, Gd G dep (dep 73), (sig 73).keep, (sig 73).ord⟩
noncomputable def c73 : Code := Try.f73.body.getD .skip
def ST73 : List (Nat × (St → Cont (List DV × List (List D)) → Rs)) := []
theorem r73 : ∀ vs, tw73 vs = bodyK C73 (lkS ST73) Try.f73 (sig 73) c73 (fillAs A73 0 vs) := fun vs => by kernel_rfl
theorem ok73 : OkS sig (Gd G dep (dep 73)) 73 th73 := fun xs q h => body_ok Try.func73 (c := c73) rfl A73 tw73 (sums_of (C := C73) (t := ST73) trivial) r73 (by rw [← tpw73]; exact opt_gOf h)
noncomputable def C74 : Ctx := ⟨Try.prog, sig, Gd G dep (dep 74), (sig 74).keep, (sig 74).ord⟩
noncomputable def c74 : Code := Try.f74.body.getD .skip
def ST74 : List (Nat × (St → Cont (List DV × List (List D)) → Rs)) := []
theorem r74 : ∀ vs, tw74 vs = bodyK C74 (lkS ST74) Try.f74 (sig 74) c74 (fillAs A74 0 vs) := fun vs => by kernel_rfl
theorem ok74 : OkS sig (Gd G dep (dep 74)) 74 th74 := fun xs q h => body_ok Try.func74 (c := c74) rfl A74 tw74 (sums_of (C := C74) (t := ST74) trivial) r74 (by rw [← tpw74]; exact opt_gOf h)
noncomputable def C34 : Ctx := ⟨Try.prog, sig, Gd G dep (dep 34), (sig 34).keep, (sig 34).ord⟩
noncomputable def c34 : Code := Try.f34.body.getD .skip
def ST34 : List (Nat × (St → Cont (List DV × List (List D)) → Rs)) := []
theorem r34 : ∀ vs, tw34 vs = bodyK C34 (lkS ST34) Try.f34 (sig 34) c34 (fillAs A34 0 vs) := fun vs => by kernel_rfl
theorem ok34 : OkS sig (Gd G dep (dep 34)) 34 th34 := fun xs q h => body_ok Try.func34 (c := c34) rfl A34 tw34 (sums_of (C := C34) (t := ST34) trivial) r34 (by rw [← tpw34]; exact opt_gOf h)
noncomputable def C63 : Ctx := ⟨Try.prog, sig, Gd G dep (dep 63), (sig 63).keep, (sig 63).ord⟩
noncomputable def c63 : Code := Try.f63.body.getD .skip
def ST63 : List (Nat × (St → Cont (List DV × List (List D)) → Rs)) := []
theorem r63 : ∀ vs, tw63 vs = bodyK C63 (lkS ST63) Try.f63 (sig 63) c63 (fillAs A63 0 vs) := fun vs => by kernel_rfl
theorem ok63 : OkS sig (Gd G dep (dep 63)) 63 th63 := fun xs q h => body_ok Try.func63 (c := c63) rfl A63 tw63 (sums_of (C := C63) (t := ST63) trivial) r63 (by rw [← tpw63]; exact opt_gOf h)
noncomputable def C64 : Ctx := ⟨Try.prog, sig, Gd G dep (dep 64), (sig 64).keep, (sig 64).ord⟩
noncomputable def c64 : Code := Try.f64.body.getD .skip
def ST64 : List (Nat × (St → Cont (List DV × List (List D)) → Rs)) := []
theorem r64 : ∀ vs, tw64 vs = bodyK C64 (lkS ST64) Try.f64 (sig 64) c64 (fillAs A64 0 vs) := fun vs => by kernel_rfl
theorem ok64 : OkS sig (Gd G dep (dep 64)) 64 th64 := fun xs q h => body_ok Try.func64 (c := c64) rfl A64 tw64 (sums_of (C := C64) (t := ST64) trivial) r64 (by rw [← tpw64]; exact opt_gOf h)
noncomputable def C65 : Ctx := ⟨Try.prog, sig, Gd G dep (dep 65), (sig 65).keep, (sig 65).ord⟩
noncomputable def c65 : Code := Try.f65.body.getD .skip
def T65o0 : TSt := ⟨[dL, dB, .any, .undef, dL, dI, dI, .any, .any], []⟩
def X65o0e1 : TSt := ⟨[dL, dB, dI, .ptr 256 0, dL, dI, dI, dB, dB], [(256, .box [dI, dI, dI, dI, dI])]⟩
def X65o0e2 : TSt := ⟨[dL, dB, .any, .undef, dL, dI, dI, dB, .any], []⟩
def L65o0 (m : Nat) (vs : List Vr) (K : Cont (List DV × List (List D))) : Rs := la65o0 tu63 (vL vs 0) (vB vs 1) (vL vs 3) (vI vs 4) (fun n23 b24 b25 n26 n27 n28 n29 n30 => K .ret (fillS X65o0e1 [.l (vL vs 0), .b (false), .i (n23), .l (vL vs 3), .i (vI vs 4), .i (n23), .b (b24), .b (b25), .i (n26), .i (n27), .i (n28), .i (n29), .i (n30)])) (fun v31 n32 b33 v34 => K (.exit 0) (fillS X65o0e2 [.l (vL vs 0), .b (vB vs 1), .v (v31), .l (vL vs 3), .i (vI vs 4), .i (n32), .b (b33), .v (v34)])) m (vV vs 2) (vI vs 5) (vV vs 6) (vV vs 7)
def ST65 : List (Nat × (St → Cont (List DV × List (List D)) → Rs)) := [(0, sumT T65o0 (L65o0 KK))]
noncomputable def b65o0 : Code := match nodeAt c65 0 with | some (.loop a) => a | _ => .skip
theorem q65o0 : ∀ m vs K, L65o0 (m + 1) vs K = denK C65 (lkS ST65) b65o0 1 (fillS T65o0 vs) (loopK T65o0 (L65o0 m) K) := fun m vs K => by kernel_rfl
theorem o65o0 : SumOk C65 KK (sumT T65o0 (L65o0 KK)) (.loop b65o0) := loop_ok T65o0 L65o0 (sums_of (t := ST65) ⟨fun _ _ h => absurd h (by decide), trivial⟩) (fun _ _ => rfl) q65o0
theorem r65 : ∀ vs, tw65 vs = bodyK C65 (lkS ST65) Try.f65 (sig 65) c65 (fillAs A65 0 vs) := fun vs => by kernel_rfl
theorem ok65 : OkS sig (Gd G dep (dep 65)) 65 th65 := fun xs q h => body_ok Try.func65 (c := c65) rfl A65 tw65 (sums_of (C := C65) (t := ST65) ⟨sum_in (c' := .loop b65o0) (by kernel_rfl) (o65o0), trivial⟩) r65 (by rw [← tpw65]; exact opt_gOf h)
noncomputable def C141 : Ctx := ⟨Try.prog, sig, Gd G dep (dep 141), (sig 141).keep, (sig 141).ord⟩
noncomputable def c141 : Code := Try.f141.body.getD .skip
def ST141 : List (Nat × (St → Cont (List DV × List (List D)) → Rs)) := []
theorem r141 : ∀ vs, tw141 vs = bodyK C141 (lkS ST141) Try.f141 (sig 141) c141 (fillAs A141 0 vs) := fun vs => by kernel_rfl
theorem ok141 : OkS sig (Gd G dep (dep 141)) 141 th141 := fun xs q h => body_ok Try.func141 (c := c141) rfl A141 tw141 (sums_of (C := C141) (t := ST141) trivial) r141 (by rw [← tpw141]; exact opt_gOf h)
noncomputable def C130 : Ctx := ⟨Try.prog, sig, Gd G dep (dep 130), (sig 130).keep, (sig 130).ord⟩
noncomputable def c130 : Code := Try.f130.body.getD .skip
def T130o0 : TSt := ⟨[dS, dB, .any, dI, dI, .any, .any], []⟩
def X130o0e1 : TSt := ⟨[dS, dB, dI, dI, dI, dB, dB], []⟩
def X130o0e2 : TSt := ⟨[dS, dB, .any, dI, dI, dB, .any], []⟩
def L130o0 (m : Nat) (vs : List Vr) (K : Cont (List DV × List (List D))) : Rs := la130o0 tu63 tu141 (vS vs 0) (vB vs 1) (vI vs 3) (fun n20 b21 b22 => K .ret (fillS X130o0e1 [.s (vS vs 0), .b (false), .i (n20), .i (vI vs 3), .i (n20), .b (b21), .b (b22)])) (fun v23 n24 b25 v26 => K (.exit 0) (fillS X130o0e2 [.s (vS vs 0), .b (vB vs 1), .v (v23), .i (vI vs 3), .i (n24), .b (b25), .v (v26)])) m (vV vs 2) (vI vs 4) (vV vs 5) (vV vs 6)
def ST130 : List (Nat × (St → Cont (List DV × List (List D)) → Rs)) := [(0, sumT T130o0 (L130o0 KK))]
noncomputable def b130o0 : Code := match nodeAt c130 0 with | some (.loop a) => a | _ => .skip
theorem q130o0 : ∀ m vs K, L130o0 (m + 1) vs K = denK C130 (lkS ST130) b130o0 1 (fillS T130o0 vs) (loopK T130o0 (L130o0 m) K) := fun m vs K => by kernel_rfl
theorem o130o0 : SumOk C130 KK (sumT T130o0 (L130o0 KK)) (.loop b130o0) := loop_ok T130o0 L130o0 (sums_of (t := ST130) ⟨fun _ _ h => absurd h (by decide), trivial⟩) (fun _ _ => rfl) q130o0
theorem r130 : ∀ vs, tw130 vs = bodyK C130 (lkS ST130) Try.f130 (sig 130) c130 (fillAs A130 0 vs) := fun vs => by kernel_rfl
theorem ok130 : OkS sig (Gd G dep (dep 130)) 130 th130 := fun xs q h => body_ok Try.func130 (c := c130) rfl A130 tw130 (sums_of (C := C130) (t := ST130) ⟨sum_in (c' := .loop b130o0) (by kernel_rfl) (o130o0), trivial⟩) r130 (by rw [← tpw130]; exact opt_gOf h)
noncomputable def C142 : Ctx := ⟨Try.prog, sig, Gd G dep (dep 142), (sig 142).keep, (sig 142).ord⟩
noncomputable def c142 : Code := Try.f142.body.getD .skip
def T142o0 : TSt := ⟨[dS, dB, .any, dI, dI, .any, .any], []⟩
def X142o0e1 : TSt := ⟨[dS, dB, dI, dI, dI, dB, dB], []⟩
def X142o0e2 : TSt := ⟨[dS, dB, .any, dI, dI, dB, .any], []⟩
def L142o0 (m : Nat) (vs : List Vr) (K : Cont (List DV × List (List D))) : Rs := la142o0 tu63 tu141 (vS vs 0) (vB vs 1) (vI vs 3) (fun n20 b21 b22 => K .ret (fillS X142o0e1 [.s (vS vs 0), .b (false), .i (n20), .i (vI vs 3), .i (n20), .b (b21), .b (b22)])) (fun v23 n24 b25 v26 => K (.exit 0) (fillS X142o0e2 [.s (vS vs 0), .b (vB vs 1), .v (v23), .i (vI vs 3), .i (n24), .b (b25), .v (v26)])) m (vV vs 2) (vI vs 4) (vV vs 5) (vV vs 6)
def ST142 : List (Nat × (St → Cont (List DV × List (List D)) → Rs)) := [(0, sumT T142o0 (L142o0 KK))]
noncomputable def b142o0 : Code := match nodeAt c142 0 with | some (.loop a) => a | _ => .skip
theorem q142o0 : ∀ m vs K, L142o0 (m + 1) vs K = denK C142 (lkS ST142) b142o0 1 (fillS T142o0 vs) (loopK T142o0 (L142o0 m) K) := fun m vs K => by kernel_rfl
theorem o142o0 : SumOk C142 KK (sumT T142o0 (L142o0 KK)) (.loop b142o0) := loop_ok T142o0 L142o0 (sums_of (t := ST142) ⟨fun _ _ h => absurd h (by decide), trivial⟩) (fun _ _ => rfl) q142o0
theorem r142 : ∀ vs, tw142 vs = bodyK C142 (lkS ST142) Try.f142 (sig 142) c142 (fillAs A142 0 vs) := fun vs => by kernel_rfl
theorem ok142 : OkS sig (Gd G dep (dep 142)) 142 th142 := fun xs q h => body_ok Try.func142 (c := c142) rfl A142 tw142 (sums_of (C := C142) (t := ST142) ⟨sum_in (c' := .loop b142o0) (by kernel_rfl) (o142o0), trivial⟩) r142 (by rw [← tpw142]; exact opt_gOf h)
noncomputable def C132 : Ctx := ⟨Try.prog, sig, Gd G dep (dep 132), (sig 132).keep, (sig 132).ord⟩
noncomputable def c132 : Code := Try.f132.body.getD .skip
def T132o0 : TSt := ⟨[.pv [.i .i64, .l] 0, dI, .nilp, .any, dI, dI, .any, .any], []⟩
def X132o0e1 : TSt := ⟨[.pv [.i .i64, .l] 0, dI, .pv [.i .i64, .i .i64, .i .i64, .i .i64, .i .i64, .s, .l, .i .i64, .i .i64] 0, dI, dI, dI, dB, dB], []⟩
def X132o0e2 : TSt := ⟨[.pv [.i .i64, .l] 0, dI, .nilp, .any, dI, dI, dB, .any], []⟩
def L132o0 (m : Nat) (vs : List Vr) (K : Cont (List DV × List (List D))) : Rs := l132o0 (vI vs 0) (vL vs 1) (vI vs 2) (vI vs 4) (fun n25 n26 n27 n28 n29 s30 l31 n32 n33 n34 b35 b36 => K .ret (fillS X132o0e1 [.i (vI vs 0), .l (vL vs 1), .i (vI vs 2), .i (n25), .i (n26), .i (n27), .i (n28), .i (n29), .s (s30), .l (l31), .i (n32), .i (n33), .i (n34), .i (vI vs 4), .i (n34), .b (b35), .b (b36)])) (fun v37 n38 b39 v40 => K (.exit 0) (fillS X132o0e2 [.i (vI vs 0), .l (vL vs 1), .i (vI vs 2), .v (v37), .i (vI vs 4), .i (n38), .b (b39), .v (v40)])) m (vV vs 3) (vI vs 5) (vV vs 6) (vV vs 7)
def ST132 : List (Nat × (St → Cont (List DV × List (List D)) → Rs)) := [(0, sumT T132o0 (L132o0 KK))]
noncomputable def b132o0 : Code := match nodeAt c132 0 with | some (.loop a) => a | _ => .skip
theorem q132o0 : ∀ m vs K, L132o0 (m + 1) vs K = denK C132 (lkS ST132) b132o0 1 (fillS T132o0 vs) (loopK T132o0 (L132o0 m) K) := fun m vs K => by kernel_rfl
theorem o132o0 : SumOk C132 KK (sumT T132o0 (L132o0 KK)) (.loop b132o0) := loop_ok T132o0 L132o0 (sums_of (t := ST132) ⟨fun _ _ h => absurd h (by decide), trivial⟩) (fun _ _ => rfl) q132o0
theorem r132 : ∀ vs, tw132 vs = bodyK C132 (lkS ST132) Try.f132 (sig 132) c132 (fillAs A132 0 vs) := fun vs => by kernel_rfl
theorem ok132 : OkS sig (Gd G dep (dep 132)) 132 th132 := fun xs q h => body_ok Try.func132 (c := c132) rfl A132 tw132 (sums_of (C := C132) (t := ST132) ⟨sum_in (c' := .loop b132o0) (by kernel_rfl) (o132o0), trivial⟩) r132 (by rw [← tpw132]; exact opt_gOf h)
noncomputable def C131 : Ctx := ⟨Try.prog, sig, Gd G dep (dep 131), (sig 131).keep, (sig 131).ord⟩
noncomputable def c131 : Code := Try.f131.body.getD .skip
def T131o0 : TSt := ⟨[.pv [.i .i64, .l] 0, .agg [dI, dI, dI, dI, dI, dS, dL, dI, dI], .ptr 192 0, dB, .any, .undef, dL, dI, dI, .any, .any], [(192, .box [dI, dI, dI, dI, dI, dS, dL, dI, dI])]⟩
def X131o0e1 : TSt := ⟨[.pv [.i .i64, .l] 0, .agg [dI, dI, dI, dI, dI, dS, dL, dI, dI], .ptr 192 0, dB, dI, .ptr 384 0, dL, dI, dI, dB, dB], [(192, .box [dI, dI, dI, dI, dI, dS, dL, dI, dI]), (384, .box [dS, dI])]⟩
def X131o0e2 : TSt := ⟨[.pv [.i .i64, .l] 0, .agg [dI, dI, dI, dI, dI, dS, dL, dI, dI], .ptr 192 0, dB, .any, .undef, dL, dI, dI, dB, .any], [(192, .box [dI, dI, dI, dI, dI, dS, dL, dI, dI])]⟩
def L131o0 (m : Nat) (vs : List Vr) (K : Cont (List DV × List (List D))) : Rs := la131o0 tu132 tu142 (vI vs 0) (vL vs 1) (vI vs 2) (vI vs 3) (vI vs 4) (vI vs 5) (vI vs 6) (vS vs 7) (vL vs 8) (vI vs 9) (vI vs 10) (vB vs 11) (vL vs 13) (vI vs 14) (vI vs 18) (vI vs 19) (vI vs 20) (vI vs 21) (vI vs 22) (vS vs 23) (vL vs 24) (vI vs 25) (vI vs 26) (fun n90 b91 b92 s93 n94 => K .ret (fillS X131o0e1 [.i (vI vs 0), .l (vL vs 1), .i (vI vs 2), .i (vI vs 3), .i (vI vs 4), .i (vI vs 5), .i (vI vs 6), .s (vS vs 7), .l (vL vs 8), .i (vI vs 9), .i (vI vs 10), .b (false), .i (n90), .l (vL vs 13), .i (vI vs 14), .i (n90), .b (b91), .b (b92), .i (vI vs 18), .i (vI vs 19), .i (vI vs 20), .i (vI vs 21), .i (vI vs 22), .s (vS vs 23), .l (vL vs 24), .i (vI vs 25), .i (vI vs 26), .s (s93), .i (n94)])) (fun v95 n96 b97 v98 => K (.exit 0) (fillS X131o0e2 [.i (vI vs 0), .l (vL vs 1), .i (vI vs 2), .i (vI vs 3), .i (vI vs 4), .i (vI vs 5), .i (vI vs 6), .s (vS vs 7), .l (vL vs 8), .i (vI vs 9), .i (vI vs 10), .b (vB vs 11), .v (v95), .l (vL vs 13), .i (vI vs 14), .i (n96), .b (b97), .v (v98), .i (vI vs 18), .i (vI vs 19), .i (vI vs 20), .i (vI vs 21), .i (vI vs 22), .s (vS vs 23), .l (vL vs 24), .i (vI vs 25), .i (vI vs 26)])) m (vV vs 12) (vI vs 15) (vV vs 16) (vV vs 17)
def ST131 : List (Nat × (St → Cont (List DV × List (List D)) → Rs)) := [(0, sumT T131o0 (L131o0 KK))]
noncomputable def b131o0 : Code := match nodeAt c131 0 with | some (.loop a) => a | _ => .skip
theorem q131o0 : ∀ m vs K, L131o0 (m + 1) vs K = denK C131 (lkS ST131) b131o0 1 (fillS T131o0 vs) (loopK T131o0 (L131o0 m) K) := fun m vs K => by kernel_rfl
theorem o131o0 : SumOk C131 KK (sumT T131o0 (L131o0 KK)) (.loop b131o0) := loop_ok T131o0 L131o0 (sums_of (t := ST131) ⟨fun _ _ h => absurd h (by decide), trivial⟩) (fun _ _ => rfl) q131o0
theorem r131 : ∀ vs, tw131 vs = bodyK C131 (lkS ST131) Try.f131 (sig 131) c131 (fillAs A131 0 vs) := fun vs => by kernel_rfl
theorem ok131 : OkS sig (Gd G dep (dep 131)) 131 th131 := fun xs q h => body_ok Try.func131 (c := c131) rfl A131 tw131 (sums_of (C := C131) (t := ST131) ⟨sum_in (c' := .loop b131o0) (by kernel_rfl) (o131o0), trivial⟩) r131 (by rw [← tpw131]; exact opt_gOf h)
noncomputable def C99 : Ctx := ⟨Try.prog, sig, Gd G dep (dep 99), (sig 99).keep, (sig 99).ord⟩
noncomputable def c99 : Code := Try.f99.body.getD .skip
def ST99 : List (Nat × (St → Cont (List DV × List (List D)) → Rs)) := []
theorem r99 : ∀ vs, tw99 vs = bodyK C99 (lkS ST99) Try.f99 (sig 99) c99 (fillAs A99 0 vs) := fun vs => by kernel_rfl
theorem ok99 : OkS sig (Gd G dep (dep 99)) 99 th99 := fun xs q h => body_ok Try.func99 (c := c99) rfl A99 tw99 (sums_of (C := C99) (t := ST99) trivial) r99 (by rw [← tpw99]; exact opt_gOf h)
noncomputable def C133 : Ctx := ⟨Try.prog, sig, Gd G dep (dep 133), (sig 133).keep, (sig 133).ord⟩
noncomputable def c133 : Code := Try.f133.body.getD .skip
def T133o0 : TSt := ⟨[dL, dI, dI, .any, dI, dI, .any, .any], []⟩
def X133o0e1 : TSt := ⟨[dL, dI, dI, dI, dI, dI, dB, dB], []⟩
def X133o0e2 : TSt := ⟨[dL, dI, dI, .any, dI, dI, dB, .any], []⟩
def L133o0 (m : Nat) (vs : List Vr) (K : Cont (List DV × List (List D))) : Rs := l133o0 (vL vs 0) (vI vs 1) (vI vs 2) (vI vs 4) (fun n24 b25 b26 => K .ret (fillS X133o0e1 [.l (vL vs 0), .i (vI vs 1), .i (n24), .i (n24), .i (vI vs 4), .i (n24), .b (b25), .b (b26)])) (fun v27 n28 b29 v30 => K (.exit 0) (fillS X133o0e2 [.l (vL vs 0), .i (vI vs 1), .i (vI vs 2), .v (v27), .i (vI vs 4), .i (n28), .b (b29), .v (v30)])) m (vV vs 3) (vI vs 5) (vV vs 6) (vV vs 7)
def ST133 : List (Nat × (St → Cont (List DV × List (List D)) → Rs)) := [(0, sumT T133o0 (L133o0 KK))]
noncomputable def b133o0 : Code := match nodeAt c133 0 with | some (.loop a) => a | _ => .skip
theorem q133o0 : ∀ m vs K, L133o0 (m + 1) vs K = denK C133 (lkS ST133) b133o0 1 (fillS T133o0 vs) (loopK T133o0 (L133o0 m) K) := fun m vs K => by kernel_rfl
theorem o133o0 : SumOk C133 KK (sumT T133o0 (L133o0 KK)) (.loop b133o0) := loop_ok T133o0 L133o0 (sums_of (t := ST133) ⟨fun _ _ h => absurd h (by decide), trivial⟩) (fun _ _ => rfl) q133o0
theorem r133 : ∀ vs, tw133 vs = bodyK C133 (lkS ST133) Try.f133 (sig 133) c133 (fillAs A133 0 vs) := fun vs => by kernel_rfl
theorem ok133 : OkS sig (Gd G dep (dep 133)) 133 th133 := fun xs q h => body_ok Try.func133 (c := c133) rfl A133 tw133 (sums_of (C := C133) (t := ST133) ⟨sum_in (c' := .loop b133o0) (by kernel_rfl) (o133o0), trivial⟩) r133 (by rw [← tpw133]; exact opt_gOf h)
noncomputable def C101 : Ctx := ⟨Try.prog, sig, Gd G dep (dep 101), (sig 101).keep, (sig 101).ord⟩
noncomputable def c101 : Code := Try.f101.body.getD .skip
def ST101 : List (Nat × (St → Cont (List DV × List (List D)) → Rs)) := []
theorem r101 : ∀ vs, tw101 vs = bodyK C101 (lkS ST101) Try.f101 (sig 101) c101 (fillAs A101 0 vs) := fun vs => by kernel_rfl
theorem ok101 : OkS sig (Gd G dep (dep 101)) 101 th101 := fun xs q h => body_ok Try.func101 (c := c101) rfl A101 tw101 (sums_of (C := C101) (t := ST101) trivial) r101 (by rw [← tpw101]; exact opt_gOf h)
noncomputable def C100 : Ctx := ⟨Try.prog, sig, Gd G dep (dep 100), (sig 100).keep, (sig 100).ord⟩
noncomputable def c100 : Code := Try.f100.body.getD .skip
def T100o3 : TSt := ⟨[.pv [.i .i64, .l] 0, dI, .nils, .own 704, .own 832, dI, .any, .undef, dB, dB, dL, dI, dI, .any, .any], [(704, .row 3 1), (832, .row 3 1)]⟩
def X100o3e1 : TSt := ⟨[.pv [.i .i64, .l] 0, dI, .nils, .own 704, .own 832, dI, .any, .undef, dB, dB, dL, dI, dI, dB, .any], [(704, .row 3 1), (832, .row 3 1)]⟩
def L100o3 (m : Nat) (vs : List Vr) (K : Cont (List DV × List (List D))) : Rs := la100o3 tu101 tu132 (vI vs 0) (vL vs 1) (vI vs 2) (vI vs 3) (vB vs 5) (vB vs 6) (vL vs 7) (vI vs 8) (fun v130 n131 b132 v133 l134 l135 => K (.exit 2) (fillS X100o3e1 [.i (vI vs 0), .l (vL vs 1), .i (vI vs 2), .i (vI vs 3), .v (v130), .b (vB vs 5), .b (vB vs 6), .l (vL vs 7), .i (vI vs 8), .i (n131), .b (b132), .v (v133), .l (l134), .l (l135)])) m (vV vs 4) (vI vs 9) (vV vs 10) (vV vs 11) (vL vs 12) (vL vs 13)
def T100o0 : TSt := ⟨[.pv [.i .i64, .l] 0, dI, .nils, .own 704, .own 832, dI, .any, .undef, .any, .any, .any, .any, .any, .any, .any], [(704, .row 3 1), (832, .row 3 1)]⟩
def X100o0e1 : TSt := ⟨[.pv [.i .i64, .l] 0, dI, .nils, .own 704, .own 832, dI, .any, .undef, dB, .any, .any, .any, .any, .any, .any], [(704, .row 3 1), (832, .row 3 1)]⟩
def L100o0 (m : Nat) (vs : List Vr) (K : Cont (List DV × List (List D))) : Rs := la100o0 tu101 tu132 (vI vs 0) (vL vs 1) (vI vs 2) (fun n170 v171 b172 v173 v174 v175 v176 v177 v178 l179 l180 => K (.exit 0) (fillS X100o0e1 [.i (vI vs 0), .l (vL vs 1), .i (vI vs 2), .i (n170), .v (v171), .b (b172), .v (v173), .v (v174), .v (v175), .v (v176), .v (v177), .v (v178), .l (l179), .l (l180)])) m (vI vs 3) (vV vs 4) (vV vs 5) (vV vs 6) (vV vs 7) (vV vs 8) (vV vs 9) (vV vs 10) (vV vs 11) (vL vs 12) (vL vs 13)
def ST100 : List (Nat × (St → Cont (List DV × List (List D)) → Rs)) := [(3, sumT T100o3 (L100o3 KK)), (0, sumT T100o0 (L100o0 KK))]
noncomputable def b100o3 : Code := match nodeAt c100 3 with | some (.loop a) => a | _ => .skip
noncomputable def b100o0 : Code := match nodeAt c100 0 with | some (.loop a) => a | _ => .skip
theorem q100o3 : ∀ m vs K, L100o3 (m + 1) vs K = denK C100 (lkS ST100) b100o3 4 (fillS T100o3 vs) (loopK T100o3 (L100o3 m) K) := fun m vs K => by kernel_rfl
theorem o100o3 : SumOk C100 KK (sumT T100o3 (L100o3 KK)) (.loop b100o3) := loop_ok T100o3 L100o3 (sums_of (t := ST100) ⟨fun _ _ h => absurd h (by decide), fun _ _ h => absurd h (by decide), trivial⟩) (fun _ _ => rfl) q100o3
theorem q100o0 : ∀ m vs K, L100o0 (m + 1) vs K = denK C100 (lkS ST100) b100o0 1 (fillS T100o0 vs) (loopK T100o0 (L100o0 m) K) := fun m vs K => by kernel_rfl
theorem o100o0 : SumOk C100 KK (sumT T100o0 (L100o0 KK)) (.loop b100o0) := loop_ok T100o0 L100o0 (sums_of (t := ST100) ⟨sum_in (c' := .loop b100o3) (by kernel_rfl) (o100o3), fun _ _ h => absurd h (by decide), trivial⟩) (fun _ _ => rfl) q100o0
theorem r100 : ∀ vs, tw100 vs = bodyK C100 (lkS ST100) Try.f100 (sig 100) c100 (fillAs A100 0 vs) := fun vs => by kernel_rfl
theorem ok100 : OkS sig (Gd G dep (dep 100)) 100 th100 := fun xs q h => body_ok Try.func100 (c := c100) rfl A100 tw100 (sums_of (C := C100) (t := ST100) ⟨sum_in (c' := .loop b100o3) (by kernel_rfl) (o100o3), sum_in (c' := .loop b100o0) (by kernel_rfl) (o100o0), trivial⟩) r100 (by rw [← tpw100]; exact opt_gOf h)
noncomputable def C102 : Ctx := ⟨Try.prog, sig, Gd G dep (dep 102), (sig 102).keep, (sig 102).ord⟩
noncomputable def c102 : Code := Try.f102.body.getD .skip
def T102o2 : TSt := ⟨[.pv [.i .i64, .l] 0, dI, dI, dI, .ptr 448 0, .undef, dL, dI, dI, dB, dL, dI, dI, .any, .any], [(448, .box [dI, dI, dI, dI, dI, dS, dL, dI, dI])]⟩
def X102o2e1 : TSt := ⟨[.pv [.i .i64, .l] 0, dI, dI, dI, .ptr 448 0, .undef, dL, dI, dI, dB, dL, dI, dI, dB, .any], [(448, .box [dI, dI, dI, dI, dI, dS, dL, dI, dI])]⟩
def L102o2 (m : Nat) (vs : List Vr) (K : Cont (List DV × List (List D))) : Rs := l102o2 (vI vs 0) (vL vs 1) (vI vs 2) (vI vs 3) (vL vs 5) (vI vs 6) (vI vs 7) (vB vs 8) (vL vs 9) (vI vs 10) (vI vs 14) (vI vs 15) (vI vs 16) (vI vs 17) (vI vs 18) (vS vs 19) (vL vs 20) (vI vs 21) (vI vs 22) (fun n174 n175 b176 v177 => K (.exit 2) (fillS X102o2e1 [.i (vI vs 0), .l (vL vs 1), .i (vI vs 2), .i (vI vs 3), .i (n174), .l (vL vs 5), .i (vI vs 6), .i (vI vs 7), .b (vB vs 8), .l (vL vs 9), .i (vI vs 10), .i (n175), .b (b176), .v (v177), .i (vI vs 14), .i (vI vs 15), .i (vI vs 16), .i (vI vs 17), .i (vI vs 18), .s (vS vs 19), .l (vL vs 20), .i (vI vs 21), .i (vI vs 22)])) m (vI vs 4) (vI vs 11) (vV vs 12) (vV vs 13)
def T102o0 : TSt := ⟨[.pv [.i .i64, .l] 0, dI, dI, dI, .undef, .undef, dL, dI, dI, .any, .any, .any, .any, .any, .any], []⟩
def X102o0e1 : TSt := ⟨[.pv [.i .i64, .l] 0, dI, dI, dI, .undef, .undef, dL, dI, dI, dB, .any, .any, .any, .any, .any], []⟩
def L102o0 (m : Nat) (vs : List Vr) (K : Cont (List DV × List (List D))) : Rs := l102o0 (vI vs 0) (vL vs 1) (vI vs 2) (vI vs 3) (vL vs 5) (vI vs 6) (fun n196 n197 b198 v199 v200 v201 v202 v203 => K (.exit 0) (fillS X102o0e1 [.i (vI vs 0), .l (vL vs 1), .i (vI vs 2), .i (vI vs 3), .i (n196), .l (vL vs 5), .i (vI vs 6), .i (n197), .b (b198), .v (v199), .v (v200), .v (v201), .v (v202), .v (v203)])) m (vI vs 4) (vI vs 7) (vV vs 8) (vV vs 9) (vV vs 10) (vV vs 11) (vV vs 12) (vV vs 13)
def ST102 : List (Nat × (St → Cont (List DV × List (List D)) → Rs)) := [(2, sumT T102o2 (L102o2 KK)), (0, sumT T102o0 (L102o0 KK))]
noncomputable def b102o2 : Code := match nodeAt c102 2 with | some (.loop a) => a | _ => .skip
noncomputable def b102o0 : Code := match nodeAt c102 0 with | some (.loop a) => a | _ => .skip
theorem q102o2 : ∀ m vs K, L102o2 (m + 1) vs K = denK C102 (lkS ST102) b102o2 3 (fillS T102o2 vs) (loopK T102o2 (L102o2 m) K) := fun m vs K => by kernel_rfl
theorem o102o2 : SumOk C102 KK (sumT T102o2 (L102o2 KK)) (.loop b102o2) := loop_ok T102o2 L102o2 (sums_of (t := ST102) ⟨fun _ _ h => absurd h (by decide), fun _ _ h => absurd h (by decide), trivial⟩) (fun _ _ => rfl) q102o2
theorem q102o0 : ∀ m vs K, L102o0 (m + 1) vs K = denK C102 (lkS ST102) b102o0 1 (fillS T102o0 vs) (loopK T102o0 (L102o0 m) K) := fun m vs K => by kernel_rfl
theorem o102o0 : SumOk C102 KK (sumT T102o0 (L102o0 KK)) (.loop b102o0) := loop_ok T102o0 L102o0 (sums_of (t := ST102) ⟨sum_in (c' := .loop b102o2) (by kernel_rfl) (o102o2), fun _ _ h => absurd h (by decide), trivial⟩) (fun _ _ => rfl) q102o0
theorem r102 : ∀ vs, tw102 vs = bodyK C102 (lkS ST102) Try.f102 (sig 102) c102 (fillAs A102 0 vs) := fun vs => by kernel_rfl
theorem ok102 : OkS sig (Gd G dep (dep 102)) 102 th102 := fun xs q h => body_ok Try.func102 (c := c102) rfl A102 tw102 (sums_of (C := C102) (t := ST102) ⟨sum_in (c' := .loop b102o2) (by kernel_rfl) (o102o2), sum_in (c' := .loop b102o0) (by kernel_rfl) (o102o0), trivial⟩) r102 (by rw [← tpw102]; exact opt_gOf h)
noncomputable def C103 : Ctx := ⟨Try.prog, sig, Gd G dep (dep 103), (sig 103).keep, (sig 103).ord⟩
noncomputable def c103 : Code := Try.f103.body.getD .skip
def T103o0 : TSt := ⟨[.pv [.i .i64, .l] 0, dI, dI, .undef, dL, dI, dI, .any], []⟩
def X103o0e1 : TSt := ⟨[.pv [.i .i64, .l] 0, dI, dI, .undef, dL, dI, dI, dB], []⟩
def L103o0 (m : Nat) (vs : List Vr) (K : Cont (List DV × List (List D))) : Rs := l103o0 (vI vs 0) (vL vs 1) (vI vs 2) (vL vs 4) (vI vs 5) (fun n26 n27 b28 => K (.exit 0) (fillS X103o0e1 [.i (vI vs 0), .l (vL vs 1), .i (vI vs 2), .i (n26), .l (vL vs 4), .i (vI vs 5), .i (n27), .b (b28)])) m (vI vs 3) (vI vs 6) (vV vs 7)
def ST103 : List (Nat × (St → Cont (List DV × List (List D)) → Rs)) := [(0, sumT T103o0 (L103o0 KK))]
noncomputable def b103o0 : Code := match nodeAt c103 0 with | some (.loop a) => a | _ => .skip
theorem q103o0 : ∀ m vs K, L103o0 (m + 1) vs K = denK C103 (lkS ST103) b103o0 1 (fillS T103o0 vs) (loopK T103o0 (L103o0 m) K) := fun m vs K => by kernel_rfl
theorem o103o0 : SumOk C103 KK (sumT T103o0 (L103o0 KK)) (.loop b103o0) := loop_ok T103o0 L103o0 (sums_of (t := ST103) ⟨fun _ _ h => absurd h (by decide), trivial⟩) (fun _ _ => rfl) q103o0
theorem r103 : ∀ vs, tw103 vs = bodyK C103 (lkS ST103) Try.f103 (sig 103) c103 (fillAs A103 0 vs) := fun vs => by kernel_rfl
theorem ok103 : OkS sig (Gd G dep (dep 103)) 103 th103 := fun xs q h => body_ok Try.func103 (c := c103) rfl A103 tw103 (sums_of (C := C103) (t := ST103) ⟨sum_in (c' := .loop b103o0) (by kernel_rfl) (o103o0), trivial⟩) r103 (by rw [← tpw103]; exact opt_gOf h)
noncomputable def C135 : Ctx := ⟨Try.prog, sig, Gd G dep (dep 135), (sig 135).keep, (sig 135).ord⟩
noncomputable def c135 : Code := Try.f135.body.getD .skip
def T135o0 : TSt := ⟨[.pv [.i .i64, .l] 0, dI, dI, dI, dI, .own 832, .any, .any, .own 832, dI, dI, .any, .any], [(832, .row 3 1)]⟩
def X135o0e1 : TSt := ⟨[.pv [.i .i64, .l] 0, dI, dI, dI, dI, .own 832, .any, .any, .own 832, dI, dI, dB, .any], [(832, .row 3 1)]⟩
def L135o0 (m : Nat) (vs : List Vr) (K : Cont (List DV × List (List D))) : Rs := la135o0 tu100 tu132 (vI vs 0) (vL vs 1) (vI vs 2) (vI vs 3) (vI vs 4) (vI vs 8) (vL vs 12) (fun n41 v42 v43 n44 b45 v46 => K (.exit 0) (fillS X135o0e1 [.i (vI vs 0), .l (vL vs 1), .i (vI vs 2), .i (vI vs 3), .i (vI vs 4), .i (n41), .v (v42), .v (v43), .i (vI vs 8), .i (n44), .b (b45), .v (v46), .l (vL vs 12)])) m (vI vs 5) (vV vs 6) (vV vs 7) (vI vs 9) (vV vs 10) (vV vs 11)
def ST135 : List (Nat × (St → Cont (List DV × List (List D)) → Rs)) := [(0, sumT T135o0 (L135o0 KK))]
noncomputable def b135o0 : Code := match nodeAt c135 0 with | some (.loop a) => a | _ => .skip
theorem q135o0 : ∀ m vs K, L135o0 (m + 1) vs K = denK C135 (lkS ST135) b135o0 1 (fillS T135o0 vs) (loopK T135o0 (L135o0 m) K) := fun m vs K => by kernel_rfl
theorem o135o0 : SumOk C135 KK (sumT T135o0 (L135o0 KK)) (.loop b135o0) := loop_ok T135o0 L135o0 (sums_of (t := ST135) ⟨fun _ _ h => absurd h (by decide), trivial⟩) (fun _ _ => rfl) q135o0
theorem r135 : ∀ vs, tw135 vs = bodyK C135 (lkS ST135) Try.f135 (sig 135) c135 (fillAs A135 0 vs) := fun vs => by kernel_rfl
theorem ok135 : OkS sig (Gd G dep (dep 135)) 135 th135 := fun xs q h => body_ok Try.func135 (c := c135) rfl A135 tw135 (sums_of (C := C135) (t := ST135) ⟨sum_in (c' := .loop b135o0) (by kernel_rfl) (o135o0), trivial⟩) r135 (by rw [← tpw135]; exact opt_gOf h)
noncomputable def C105 : Ctx := ⟨Try.prog, sig, Gd G dep (dep 105), (sig 105).keep, (sig 105).ord⟩
noncomputable def c105 : Code := Try.f105.body.getD .skip
def ST105 : List (Nat × (St → Cont (List DV × List (List D)) → Rs)) := []
theorem r105 : ∀ vs, tw105 vs = bodyK C105 (lkS ST105) Try.f105 (sig 105) c105 (fillAs A105 0 vs) := fun vs => by kernel_rfl
theorem ok105 : OkS sig (Gd G dep (dep 105)) 105 th105 := fun xs q h => body_ok Try.func105 (c := c105) rfl A105 tw105 (sums_of (C := C105) (t := ST105) trivial) r105 (by rw [← tpw105]; exact opt_gOf h)
noncomputable def C134 : Ctx := ⟨Try.prog, sig, Gd G dep (dep 134), (sig 134).keep, (sig 134).ord⟩
noncomputable def c134 : Code := Try.f134.body.getD .skip
def T134o0 : TSt := ⟨[dL, .fb 105 [.i .i64, .l], dI, .any, dI, dI, .any, .any], []⟩
def X134o0e1 : TSt := ⟨[dL, .fb 105 [.i .i64, .l], dI, dI, dI, dI, dB, dB], []⟩
def X134o0e2 : TSt := ⟨[dL, .fb 105 [.i .i64, .l], dI, .any, dI, dI, dB, .any], []⟩
def L134o0 (m : Nat) (vs : List Vr) (K : Cont (List DV × List (List D))) : Rs := la134o0 tu105 (vL vs 0) (vI vs 1) (vL vs 2) (vI vs 3) (vI vs 5) (fun n28 b29 b30 => K .ret (fillS X134o0e1 [.l (vL vs 0), .i (vI vs 1), .l (vL vs 2), .i (n28), .i (n28), .i (vI vs 5), .i (n28), .b (b29), .b (b30)])) (fun v31 n32 b33 v34 => K (.exit 0) (fillS X134o0e2 [.l (vL vs 0), .i (vI vs 1), .l (vL vs 2), .i (vI vs 3), .v (v31), .i (vI vs 5), .i (n32), .b (b33), .v (v34)])) m (vV vs 4) (vI vs 6) (vV vs 7) (vV vs 8)
def ST134 : List (Nat × (St → Cont (List DV × List (List D)) → Rs)) := [(0, sumT T134o0 (L134o0 KK))]
noncomputable def b134o0 : Code := match nodeAt c134 0 with | some (.loop a) => a | _ => .skip
theorem q134o0 : ∀ m vs K, L134o0 (m + 1) vs K = denK C134 (lkS ST134) b134o0 1 (fillS T134o0 vs) (loopK T134o0 (L134o0 m) K) := fun m vs K => by kernel_rfl
theorem o134o0 : SumOk C134 KK (sumT T134o0 (L134o0 KK)) (.loop b134o0) := loop_ok T134o0 L134o0 (sums_of (t := ST134) ⟨fun _ _ h => absurd h (by decide), trivial⟩) (fun _ _ => rfl) q134o0
theorem r134 : ∀ vs, tw134 vs = bodyK C134 (lkS ST134) Try.f134 (sig 134) c134 (fillAs A134 0 vs) := fun vs => by kernel_rfl
theorem ok134 : OkS sig (Gd G dep (dep 134)) 134 th134 := fun xs q h => body_ok Try.func134 (c := c134) rfl A134 tw134 (sums_of (C := C134) (t := ST134) ⟨sum_in (c' := .loop b134o0) (by kernel_rfl) (o134o0), trivial⟩) r134 (by rw [← tpw134]; exact opt_gOf h)
noncomputable def C104 : Ctx := ⟨Try.prog, sig, Gd G dep (dep 104), (sig 104).keep, (sig 104).ord⟩
noncomputable def c104 : Code := Try.f104.body.getD .skip
def ST104 : List (Nat × (St → Cont (List DV × List (List D)) → Rs)) := []
theorem r104 : ∀ vs, tw104 vs = bodyK C104 (lkS ST104) Try.f104 (sig 104) c104 (fillAs A104 0 vs) := fun vs => by kernel_rfl
theorem ok104 : OkS sig (Gd G dep (dep 104)) 104 th104 := fun xs q h => body_ok Try.func104 (c := c104) rfl A104 tw104 (sums_of (C := C104) (t := ST104) trivial) r104 (by rw [← tpw104]; exact opt_gOf h)
noncomputable def C66 : Ctx := ⟨Try.prog, sig, Gd G dep (dep 66), (sig 66).keep, (sig 66).ord⟩
noncomputable def c66 : Code := Try.f66.body.getD .skip
def T66o4 : TSt := ⟨[.agg [dI, dL], .ptr 64 0, dB, .any, .undef, .own 4608, .undef, dB, dL, dI, dI, dB, .any, dL, dI, dI, .any, .any], [(64, .box [dI, dL]), (4608, .row 3 1)]⟩
def X66o4e1 : TSt := ⟨[.agg [dI, dL], .ptr 64 0, dB, .any, .undef, .own 4608, .ptr 448 0, dB, dL, dI, dI, dB, .any, dL, dI, dI, dB, dB], [(64, .box [dI, dL]), (448, .box [dI, dI, dI, dI, dI, dS, dL, dI, dI]), (4608, .row 3 1)]⟩
def X66o4e2 : TSt := ⟨[.agg [dI, dL], .ptr 64 0, dB, .any, .undef, .own 4608, .undef, dB, dL, dI, dI, dB, .any, dL, dI, dI, dB, .any], [(64, .box [dI, dL]), (4608, .row 3 1)]⟩
def L66o4 (m : Nat) (vs : List Vr) (K : Cont (List DV × List (List D))) : Rs := la66o4 tu63 tu99 tu100 tu101 tu102 tu103 tu104 (vI vs 0) (vL vs 1) (vB vs 2) (vB vs 4) (vL vs 5) (vI vs 6) (vI vs 7) (vB vs 8) (vL vs 10) (vI vs 11) (vI vs 15) (vL vs 16) (vL vs 17) (fun v120 v121 n122 b123 b124 n125 n126 n127 n128 n129 s130 l131 n132 n133 => K .ret (fillS X66o4e1 [.i (vI vs 0), .l (vL vs 1), .b (false), .v (v120), .b (vB vs 4), .l (vL vs 5), .i (vI vs 6), .i (vI vs 7), .b (vB vs 8), .v (v121), .l (vL vs 10), .i (vI vs 11), .i (n122), .b (b123), .b (b124), .i (vI vs 15), .l (vL vs 16), .i (n125), .i (n126), .i (n127), .i (n128), .i (n129), .s (s130), .l (l131), .i (n132), .i (n133), .l (vL vs 17)])) (fun v134 v135 n136 b137 v138 => K (.exit 2) (fillS X66o4e2 [.i (vI vs 0), .l (vL vs 1), .b (vB vs 2), .v (v134), .b (vB vs 4), .l (vL vs 5), .i (vI vs 6), .i (vI vs 7), .b (vB vs 8), .v (v135), .l (vL vs 10), .i (vI vs 11), .i (n136), .b (b137), .v (v138), .i (vI vs 15), .l (vL vs 16), .l (vL vs 17)])) m (vV vs 3) (vV vs 9) (vI vs 12) (vV vs 13) (vV vs 14)
def T66o1 : TSt := ⟨[.agg [dI, dL], .ptr 64 0, dB, .any, .undef, .undef, .undef, dB, dL, dI, dI, .any, .any, .undef, .undef, .undef, .undef, .undef], [(64, .box [dI, dL])]⟩
def X66o1e1 : TSt := ⟨[.agg [dI, dL], .ptr 64 0, dB, dI, .ptr 256 0, .undef, .undef, dB, dL, dI, dI, dB, dB, .undef, .undef, .undef, .undef, .undef], [(64, .box [dI, dL]), (256, .box [dI, dI, dI, dI, dI, dS, dL, dI, dI])]⟩
def X66o1e2 : TSt := ⟨[.agg [dI, dL], .ptr 64 0, dB, .any, .undef, .undef, .undef, dB, dL, dI, dI, dB, .any, .undef, .undef, .undef, .undef, .undef], [(64, .box [dI, dL])]⟩
def L66o1 (m : Nat) (vs : List Vr) (K : Cont (List DV × List (List D))) : Rs := la66o1 tu63 tu99 tu100 tu101 tu102 tu103 tu104 (vI vs 0) (vL vs 1) (vB vs 2) (vB vs 4) (vL vs 5) (vI vs 6) (vI vs 10) (vL vs 11) (fun n36 b37 b38 n39 n40 n41 n42 n43 s44 l45 n46 n47 => K .ret (fillS X66o1e1 [.i (vI vs 0), .l (vL vs 1), .b (false), .i (n36), .b (vB vs 4), .l (vL vs 5), .i (vI vs 6), .i (n36), .b (b37), .b (b38), .i (vI vs 10), .l (vL vs 11), .i (n39), .i (n40), .i (n41), .i (n42), .i (n43), .s (s44), .l (l45), .i (n46), .i (n47)])) (fun v48 n49 b50 v51 => K (.exit 0) (fillS X66o1e2 [.i (vI vs 0), .l (vL vs 1), .b (vB vs 2), .v (v48), .b (vB vs 4), .l (vL vs 5), .i (vI vs 6), .i (n49), .b (b50), .v (v51), .i (vI vs 10), .l (vL vs 11)])) m (vV vs 3) (vI vs 7) (vV vs 8) (vV vs 9)
def ST66 : List (Nat × (St → Cont (List DV × List (List D)) → Rs)) := [(4, sumT T66o4 (L66o4 KK)), (1, sumT T66o1 (L66o1 KK))]
noncomputable def b66o4 : Code := match nodeAt c66 4 with | some (.loop a) => a | _ => .skip
noncomputable def b66o1 : Code := match nodeAt c66 1 with | some (.loop a) => a | _ => .skip
theorem q66o4 : ∀ m vs K, L66o4 (m + 1) vs K = denK C66 (lkS ST66) b66o4 5 (fillS T66o4 vs) (loopK T66o4 (L66o4 m) K) := fun m vs K => by kernel_rfl
theorem o66o4 : SumOk C66 KK (sumT T66o4 (L66o4 KK)) (.loop b66o4) := loop_ok T66o4 L66o4 (sums_of (t := ST66) ⟨fun _ _ h => absurd h (by decide), fun _ _ h => absurd h (by decide), trivial⟩) (fun _ _ => rfl) q66o4
theorem q66o1 : ∀ m vs K, L66o1 (m + 1) vs K = denK C66 (lkS ST66) b66o1 2 (fillS T66o1 vs) (loopK T66o1 (L66o1 m) K) := fun m vs K => by kernel_rfl
theorem o66o1 : SumOk C66 KK (sumT T66o1 (L66o1 KK)) (.loop b66o1) := loop_ok T66o1 L66o1 (sums_of (t := ST66) ⟨sum_out (by kernel_rfl), fun _ _ h => absurd h (by decide), trivial⟩) (fun _ _ => rfl) q66o1
theorem r66 : ∀ vs, tw66 vs = bodyK C66 (lkS ST66) Try.f66 (sig 66) c66 (fillAs A66 0 vs) := fun vs => by kernel_rfl
theorem ok66 : OkS sig (Gd G dep (dep 66)) 66 th66 := fun xs q h => body_ok Try.func66 (c := c66) rfl A66 tw66 (sums_of (C := C66) (t := ST66) ⟨sum_in (c' := .loop b66o4) (by kernel_rfl) (o66o4), sum_in (c' := .loop b66o1) (by kernel_rfl) (o66o1), trivial⟩) r66 (by rw [← tpw66]; exact opt_gOf h)
noncomputable def C25 : Ctx := ⟨Try.prog, sig, Gd G dep (dep 25), (sig 25).keep, (sig 25).ord⟩
noncomputable def c25 : Code := Try.f25.body.getD .skip
def T25o0 : TSt := ⟨[.agg [dI, dL, dI, dL, dL], .ptr 64 0, dB, .any, .undef, dL, dI, dI, .any, .any], [(64, .box [dI, dL, dI, dL, dL])]⟩
def X25o0e1 : TSt := ⟨[.agg [dI, dL, dI, dL, dL], .ptr 64 0, dB, dI, .ptr 256 0, dL, dI, dI, dB, dB], [(64, .box [dI, dL, dI, dL, dL]), (256, .box [dI, dI, dI, dI, dS])]⟩
def X25o0e2 : TSt := ⟨[.agg [dI, dL, dI, dL, dL], .ptr 64 0, dB, .any, .undef, dL, dI, dI, dB, .any], [(64, .box [dI, dL, dI, dL, dL])]⟩
def L25o0 (m : Nat) (vs : List Vr) (K : Cont (List DV × List (List D))) : Rs := la25o0 tu63 tu64 tu65 tu66 (vI vs 0) (vL vs 1) (vI vs 2) (vL vs 3) (vL vs 4) (vB vs 5) (vL vs 7) (vI vs 8) (vI vs 12) (vL vs 13) (vI vs 14) (vL vs 15) (vL vs 16) (fun n54 b55 b56 n57 n58 n59 n60 s61 => K .ret (fillS X25o0e1 [.i (vI vs 0), .l (vL vs 1), .i (vI vs 2), .l (vL vs 3), .l (vL vs 4), .b (false), .i (n54), .l (vL vs 7), .i (vI vs 8), .i (n54), .b (b55), .b (b56), .i (vI vs 12), .l (vL vs 13), .i (vI vs 14), .l (vL vs 15), .l (vL vs 16), .i (n57), .i (n58), .i (n59), .i (n60), .s (s61)])) (fun v62 n63 b64 v65 => K (.exit 0) (fillS X25o0e2 [.i (vI vs 0), .l (vL vs 1), .i (vI vs 2), .l (vL vs 3), .l (vL vs 4), .b (vB vs 5), .v (v62), .l (vL vs 7), .i (vI vs 8), .i (n63), .b (b64), .v (v65), .i (vI vs 12), .l (vL vs 13), .i (vI vs 14), .l (vL vs 15), .l (vL vs 16)])) m (vV vs 6) (vI vs 9) (vV vs 10) (vV vs 11)
def ST25 : List (Nat × (St → Cont (List DV × List (List D)) → Rs)) := [(0, sumT T25o0 (L25o0 KK))]
noncomputable def b25o0 : Code := match nodeAt c25 0 with | some (.loop a) => a | _ => .skip
theorem q25o0 : ∀ m vs K, L25o0 (m + 1) vs K = denK C25 (lkS ST25) b25o0 1 (fillS T25o0 vs) (loopK T25o0 (L25o0 m) K) := fun m vs K => by kernel_rfl
theorem o25o0 : SumOk C25 KK (sumT T25o0 (L25o0 KK)) (.loop b25o0) := loop_ok T25o0 L25o0 (sums_of (t := ST25) ⟨fun _ _ h => absurd h (by decide), trivial⟩) (fun _ _ => rfl) q25o0
theorem r25 : ∀ vs, tw25 vs = bodyK C25 (lkS ST25) Try.f25 (sig 25) c25 (fillAs A25 0 vs) := fun vs => by kernel_rfl
theorem ok25 : OkS sig (Gd G dep (dep 25)) 25 th25 := fun xs q h => body_ok Try.func25 (c := c25) rfl A25 tw25 (sums_of (C := C25) (t := ST25) ⟨sum_in (c' := .loop b25o0) (by kernel_rfl) (o25o0), trivial⟩) r25 (by rw [← tpw25]; exact opt_gOf h)
noncomputable def C112 : Ctx := ⟨Try.prog, sig, Gd G dep (dep 112), (sig 112).keep, (sig 112).ord⟩
noncomputable def c112 : Code := Try.f112.body.getD .skip
def T112o0 : TSt := ⟨[.agg [dI, dL], .ptr 64 0, .ptr 128 0, .ptr 192 0, .undef, dL, dI, dI, .any], [(64, .box [dI, dL]), (128, .box [dI, .nils]), (192, .box [dI, .own 12290]), (12290, .row 64 9)]⟩
def X112o0e1 : TSt := ⟨[.agg [dI, dL], .ptr 64 0, .ptr 128 0, .ptr 192 0, .undef, dL, dI, dI, dB], [(64, .box [dI, dL]), (128, .box [dI, .nils]), (192, .box [dI, .own 12290]), (12290, .row 64 9)]⟩
def L112o0 (m : Nat) (vs : List Vr) (K : Cont (List DV × List (List D))) : Rs := l112o0 (vI vs 0) (vL vs 1) (vL vs 2) (vI vs 3) (vI vs 6) (vL vs 7) (vI vs 8) (vI vs 9) (fun n35 b36 l37 => K (.exit 0) (fillS X112o0e1 [.i (vI vs 0), .l (vL vs 1), .l (vL vs 2), .i (vI vs 3), .i (n35), .b (b36), .i (vI vs 6), .l (vL vs 7), .i (vI vs 8), .i (vI vs 9), .l (l37)])) m (vI vs 4) (vV vs 5) (vL vs 10)
def ST112 : List (Nat × (St → Cont (List DV × List (List D)) → Rs)) := [(0, sumT T112o0 (L112o0 KK))]
noncomputable def b112o0 : Code := match nodeAt c112 0 with | some (.loop a) => a | _ => .skip
theorem q112o0 : ∀ m vs K, L112o0 (m + 1) vs K = denK C112 (lkS ST112) b112o0 1 (fillS T112o0 vs) (loopK T112o0 (L112o0 m) K) := fun m vs K => by kernel_rfl
theorem o112o0 : SumOk C112 KK (sumT T112o0 (L112o0 KK)) (.loop b112o0) := loop_ok T112o0 L112o0 (sums_of (t := ST112) ⟨fun _ _ h => absurd h (by decide), trivial⟩) (fun _ _ => rfl) q112o0
theorem r112 : ∀ vs, tw112 vs = bodyK C112 (lkS ST112) Try.f112 (sig 112) c112 (fillAs A112 0 vs) := fun vs => by kernel_rfl
theorem ok112 : OkS sig (Gd G dep (dep 112)) 112 th112 := fun xs q h => body_ok Try.func112 (c := c112) rfl A112 tw112 (sums_of (C := C112) (t := ST112) ⟨sum_in (c' := .loop b112o0) (by kernel_rfl) (o112o0), trivial⟩) r112 (by rw [← tpw112]; exact opt_gOf h)
noncomputable def C75 : Ctx := ⟨Try.prog, sig, Gd G dep (dep 75), (sig 75).keep, (sig 75).ord⟩
noncomputable def c75 : Code := Try.f75.body.getD .skip
def ST75 : List (Nat × (St → Cont (List DV × List (List D)) → Rs)) := []
theorem r75 : ∀ vs, tw75 vs = bodyK C75 (lkS ST75) Try.f75 (sig 75) c75 (fillAs A75 0 vs) := fun vs => by kernel_rfl
theorem ok75 : OkS sig (Gd G dep (dep 75)) 75 th75 := fun xs q h => body_ok Try.func75 (c := c75) rfl A75 tw75 (sums_of (C := C75) (t := ST75) trivial) r75 (by rw [← tpw75]; exact opt_gOf h)
noncomputable def C76 : Ctx := ⟨Try.prog, sig, Gd G dep (dep 76), (sig 76).keep, (sig 76).ord⟩
noncomputable def c76 : Code := Try.f76.body.getD .skip
def ST76 : List (Nat × (St → Cont (List DV × List (List D)) → Rs)) := []
theorem r76 : ∀ vs, tw76 vs = bodyK C76 (lkS ST76) Try.f76 (sig 76) c76 (fillAs A76 0 vs) := fun vs => by kernel_rfl
theorem ok76 : OkS sig (Gd G dep (dep 76)) 76 th76 := fun xs q h => body_ok Try.func76 (c := c76) rfl A76 tw76 (sums_of (C := C76) (t := ST76) trivial) r76 (by rw [← tpw76]; exact opt_gOf h)
noncomputable def C35 : Ctx := ⟨Try.prog, sig, Gd G dep (dep 35), (sig 35).keep, (sig 35).ord⟩
noncomputable def c35 : Code := Try.f35.body.getD .skip
def ST35 : List (Nat × (St → Cont (List DV × List (List D)) → Rs)) := []
theorem r35 : ∀ vs, tw35 vs = bodyK C35 (lkS ST35) Try.f35 (sig 35) c35 (fillAs A35 0 vs) := fun vs => by kernel_rfl
theorem ok35 : OkS sig (Gd G dep (dep 35)) 35 th35 := fun xs q h => body_ok Try.func35 (c := c35) rfl A35 tw35 (sums_of (C := C35) (t := ST35) trivial) r35 (by rw [← tpw35]; exact opt_gOf h)
noncomputable def C143 : Ctx := ⟨Try.prog, sig, Gd G dep (dep 143), (sig 143).keep, (sig 143).ord⟩
noncomputable def c143 : Code := Try.f143.body.getD .skip
def ST143 : List (Nat × (St → Cont (List DV × List (List D)) → Rs)) := []
theorem r143 : ∀ vs, tw143 vs = bodyK C143 (lkS ST143) Try.f143 (sig 143) c143 (fillAs A143 0 vs) := fun vs => by kernel_rfl
theorem ok143 : OkS sig (Gd G dep (dep 143)) 143 th143 := fun xs q h => body_ok Try.func143 (c := c143) rfl A143 tw143 (sums_of (C := C143) (t := ST143) trivial) r143 (by rw [← tpw143]; exact opt_gOf h)
noncomputable def C137 : Ctx := ⟨Try.prog, sig, Gd G dep (dep 137), (sig 137).keep, (sig 137).ord⟩
noncomputable def c137 : Code := Try.f137.body.getD .skip
def T137o1 : TSt := ⟨[dL, dL, dB, dI, dB, .any, .any], []⟩
def X137o1e1 : TSt := ⟨[dL, dL, dB, dI, dB, dB, dB], []⟩
def X137o1e2 : TSt := ⟨[dL, dL, dB, dI, dB, dB, .any], []⟩
def L137o1 (m : Nat) (vs : List Vr) (K : Cont (List DV × List (List D))) : Rs := la137o1 tu143 (vL vs 0) (vL vs 1) (vB vs 2) (vB vs 4) (fun n22 b23 b24 => K .ret (fillS X137o1e1 [.l (vL vs 0), .l (vL vs 1), .b (false), .i (n22), .b (vB vs 4), .b (b23), .b (b24)])) (fun n25 b26 v27 => K (.exit 0) (fillS X137o1e2 [.l (vL vs 0), .l (vL vs 1), .b (vB vs 2), .i (n25), .b (vB vs 4), .b (b26), .v (v27)])) m (vI vs 3) (vV vs 5) (vV vs 6)
def ST137 : List (Nat × (St → Cont (List DV × List (List D)) → Rs)) := [(1, sumT T137o1 (L137o1 KK))]
noncomputable def b137o1 : Code := match nodeAt c137 1 with | some (.loop a) => a | _ => .skip
theorem q137o1 : ∀ m vs K, L137o1 (m + 1) vs K = denK C137 (lkS ST137) b137o1 2 (fillS T137o1 vs) (loopK T137o1 (L137o1 m) K) := fun m vs K => by kernel_rfl
theorem o137o1 : SumOk C137 KK (sumT T137o1 (L137o1 KK)) (.loop b137o1) := loop_ok T137o1 L137o1 (sums_of (t := ST137) ⟨fun _ _ h => absurd h (by decide), trivial⟩) (fun _ _ => rfl) q137o1
theorem r137 : ∀ vs, tw137 vs = bodyK C137 (lkS ST137) Try.f137 (sig 137) c137 (fillAs A137 0 vs) := fun vs => by kernel_rfl
theorem ok137 : OkS sig (Gd G dep (dep 137)) 137 th137 := fun xs q h => body_ok Try.func137 (c := c137) rfl A137 tw137 (sums_of (C := C137) (t := ST137) ⟨sum_in (c' := .loop b137o1) (by kernel_rfl) (o137o1), trivial⟩) r137 (by rw [← tpw137]; exact opt_gOf h)
noncomputable def C120 : Ctx := ⟨Try.prog, sig, Gd G dep (dep 120), (sig 120).keep, (sig 120).ord⟩
noncomputable def c120 : Code := Try.f120.body.getD .skip
def ST120 : List (Nat × (St → Cont (List DV × List (List D)) → Rs)) := []
theorem r120 : ∀ vs, tw120 vs = bodyK C120 (lkS ST120) Try.f120 (sig 120) c120 (fillAs A120 0 vs) := fun vs => by kernel_rfl
theorem ok120 : OkS sig (Gd G dep (dep 120)) 120 th120 := fun xs q h => body_ok Try.func120 (c := c120) rfl A120 tw120 (sums_of (C := C120) (t := ST120) trivial) r120 (by rw [← tpw120]; exact opt_gOf h)
noncomputable def C83 : Ctx := ⟨Try.prog, sig, Gd G dep (dep 83), (sig 83).keep, (sig 83).ord⟩
noncomputable def c83 : Code := Try.f83.body.getD .skip
def T83o1 : TSt := ⟨[dL, dL, dB, dI, dB, .any, .any], []⟩
def X83o1e1 : TSt := ⟨[dL, dL, dB, dI, dB, dB, dB], []⟩
def X83o1e2 : TSt := ⟨[dL, dL, dB, dI, dB, dB, .any], []⟩
def L83o1 (m : Nat) (vs : List Vr) (K : Cont (List DV × List (List D))) : Rs := la83o1 tu120 (vL vs 0) (vL vs 1) (vB vs 2) (vB vs 4) (fun n22 b23 b24 => K .ret (fillS X83o1e1 [.l (vL vs 0), .l (vL vs 1), .b (false), .i (n22), .b (vB vs 4), .b (b23), .b (b24)])) (fun n25 b26 v27 => K (.exit 0) (fillS X83o1e2 [.l (vL vs 0), .l (vL vs 1), .b (vB vs 2), .i (n25), .b (vB vs 4), .b (b26), .v (v27)])) m (vI vs 3) (vV vs 5) (vV vs 6)
def ST83 : List (Nat × (St → Cont (List DV × List (List D)) → Rs)) := [(1, sumT T83o1 (L83o1 KK))]
noncomputable def b83o1 : Code := match nodeAt c83 1 with | some (.loop a) => a | _ => .skip
theorem q83o1 : ∀ m vs K, L83o1 (m + 1) vs K = denK C83 (lkS ST83) b83o1 2 (fillS T83o1 vs) (loopK T83o1 (L83o1 m) K) := fun m vs K => by kernel_rfl
theorem o83o1 : SumOk C83 KK (sumT T83o1 (L83o1 KK)) (.loop b83o1) := loop_ok T83o1 L83o1 (sums_of (t := ST83) ⟨fun _ _ h => absurd h (by decide), trivial⟩) (fun _ _ => rfl) q83o1
theorem r83 : ∀ vs, tw83 vs = bodyK C83 (lkS ST83) Try.f83 (sig 83) c83 (fillAs A83 0 vs) := fun vs => by kernel_rfl
theorem ok83 : OkS sig (Gd G dep (dep 83)) 83 th83 := fun xs q h => body_ok Try.func83 (c := c83) rfl A83 tw83 (sums_of (C := C83) (t := ST83) ⟨sum_in (c' := .loop b83o1) (by kernel_rfl) (o83o1), trivial⟩) r83 (by rw [← tpw83]; exact opt_gOf h)
noncomputable def C42 : Ctx := ⟨Try.prog, sig, Gd G dep (dep 42), (sig 42).keep, (sig 42).ord⟩
noncomputable def c42 : Code := Try.f42.body.getD .skip
def ST42 : List (Nat × (St → Cont (List DV × List (List D)) → Rs)) := []
theorem r42 : ∀ vs, tw42 vs = bodyK C42 (lkS ST42) Try.f42 (sig 42) c42 (fillAs A42 0 vs) := fun vs => by kernel_rfl
theorem ok42 : OkS sig (Gd G dep (dep 42)) 42 th42 := fun xs q h => body_ok Try.func42 (c := c42) rfl A42 tw42 (sums_of (C := C42) (t := ST42) trivial) r42 (by rw [← tpw42]; exact opt_gOf h)
noncomputable def C84 : Ctx := ⟨Try.prog, sig, Gd G dep (dep 84), (sig 84).keep, (sig 84).ord⟩
noncomputable def c84 : Code := Try.f84.body.getD .skip
def ST84 : List (Nat × (St → Cont (List DV × List (List D)) → Rs)) := []
theorem r84 : ∀ vs, tw84 vs = bodyK C84 (lkS ST84) Try.f84 (sig 84) c84 (fillAs A84 0 vs) := fun vs => by kernel_rfl
theorem ok84 : OkS sig (Gd G dep (dep 84)) 84 th84 := fun xs q h => body_ok Try.func84 (c := c84) rfl A84 tw84 (sums_of (C := C84) (t := ST84) trivial) r84 (by rw [← tpw84]; exact opt_gOf h)
noncomputable def C43 : Ctx := ⟨Try.prog, sig, Gd G dep (dep 43), (sig 43).keep, (sig 43).ord⟩
noncomputable def c43 : Code := Try.f43.body.getD .skip
def T43o1 : TSt := ⟨[dL, dL, dB, dI, dB, .any, .any], []⟩
def X43o1e1 : TSt := ⟨[dL, dL, dB, dI, dB, dB, dB], []⟩
def X43o1e2 : TSt := ⟨[dL, dL, dB, dI, dB, dB, .any], []⟩
def L43o1 (m : Nat) (vs : List Vr) (K : Cont (List DV × List (List D))) : Rs := la43o1 tu84 (vL vs 0) (vL vs 1) (vB vs 2) (vB vs 4) (fun n22 b23 b24 => K .ret (fillS X43o1e1 [.l (vL vs 0), .l (vL vs 1), .b (false), .i (n22), .b (vB vs 4), .b (b23), .b (b24)])) (fun n25 b26 v27 => K (.exit 0) (fillS X43o1e2 [.l (vL vs 0), .l (vL vs 1), .b (vB vs 2), .i (n25), .b (vB vs 4), .b (b26), .v (v27)])) m (vI vs 3) (vV vs 5) (vV vs 6)
def ST43 : List (Nat × (St → Cont (List DV × List (List D)) → Rs)) := [(1, sumT T43o1 (L43o1 KK))]
noncomputable def b43o1 : Code := match nodeAt c43 1 with | some (.loop a) => a | _ => .skip
theorem q43o1 : ∀ m vs K, L43o1 (m + 1) vs K = denK C43 (lkS ST43) b43o1 2 (fillS T43o1 vs) (loopK T43o1 (L43o1 m) K) := fun m vs K => by kernel_rfl
theorem o43o1 : SumOk C43 KK (sumT T43o1 (L43o1 KK)) (.loop b43o1) := loop_ok T43o1 L43o1 (sums_of (t := ST43) ⟨fun _ _ h => absurd h (by decide), trivial⟩) (fun _ _ => rfl) q43o1
theorem r43 : ∀ vs, tw43 vs = bodyK C43 (lkS ST43) Try.f43 (sig 43) c43 (fillAs A43 0 vs) := fun vs => by kernel_rfl
theorem ok43 : OkS sig (Gd G dep (dep 43)) 43 th43 := fun xs q h => body_ok Try.func43 (c := c43) rfl A43 tw43 (sums_of (C := C43) (t := ST43) ⟨sum_in (c' := .loop b43o1) (by kernel_rfl) (o43o1), trivial⟩) r43 (by rw [← tpw43]; exact opt_gOf h)
noncomputable def C121 : Ctx := ⟨Try.prog, sig, Gd G dep (dep 121), (sig 121).keep, (sig 121).ord⟩
noncomputable def c121 : Code := Try.f121.body.getD .skip
def ST121 : List (Nat × (St → Cont (List DV × List (List D)) → Rs)) := []
theorem r121 : ∀ vs, tw121 vs = bodyK C121 (lkS ST121) Try.f121 (sig 121) c121 (fillAs A121 0 vs) := fun vs => by kernel_rfl
theorem ok121 : OkS sig (Gd G dep (dep 121)) 121 th121 := fun xs q h => body_ok Try.func121 (c := c121) rfl A121 tw121 (sums_of (C := C121) (t := ST121) trivial) r121 (by rw [← tpw121]; exact opt_gOf h)
noncomputable def C85 : Ctx := ⟨Try.prog, sig, Gd G dep (dep 85), (sig 85).keep, (sig 85).ord⟩
noncomputable def c85 : Code := Try.f85.body.getD .skip
def ST85 : List (Nat × (St → Cont (List DV × List (List D)) → Rs)) := []
theorem r85 : ∀ vs, tw85 vs = bodyK C85 (lkS ST85) Try.f85 (sig 85) c85 (fillAs A85 0 vs) := fun vs => by kernel_rfl
theorem ok85 : OkS sig (Gd G dep (dep 85)) 85 th85 := fun xs q h => body_ok Try.func85 (c := c85) rfl A85 tw85 (sums_of (C := C85) (t := ST85) trivial) r85 (by rw [← tpw85]; exact opt_gOf h)
noncomputable def C44 : Ctx := ⟨Try.prog, sig, Gd G dep (dep 44), (sig 44).keep, (sig 44).ord⟩
noncomputable def c44 : Code := Try.f44.body.getD .skip
def T44o1 : TSt := ⟨[dL, dL, dB, dI, dB, .any, .any], []⟩
def X44o1e1 : TSt := ⟨[dL, dL, dB, dI, dB, dB, dB], []⟩
def X44o1e2 : TSt := ⟨[dL, dL, dB, dI, dB, dB, .any], []⟩
def L44o1 (m : Nat) (vs : List Vr) (K : Cont (List DV × List (List D))) : Rs := la44o1 tu85 (vL vs 0) (vL vs 1) (vB vs 2) (vB vs 4) (fun n22 b23 b24 => K .ret (fillS X44o1e1 [.l (vL vs 0), .l (vL vs 1), .b (false), .i (n22), .b (vB vs 4), .b (b23), .b (b24)])) (fun n25 b26 v27 => K (.exit 0) (fillS X44o1e2 [.l (vL vs 0), .l (vL vs 1), .b (vB vs 2), .i (n25), .b (vB vs 4), .b (b26), .v (v27)])) m (vI vs 3) (vV vs 5) (vV vs 6)
def ST44 : List (Nat × (St → Cont (List DV × List (List D)) → Rs)) := [(1, sumT T44o1 (L44o1 KK))]
noncomputable def b44o1 : Code := match nodeAt c44 1 with | some (.loop a) => a | _ => .skip
theorem q44o1 : ∀ m vs K, L44o1 (m + 1) vs K = denK C44 (lkS ST44) b44o1 2 (fillS T44o1 vs) (loopK T44o1 (L44o1 m) K) := fun m vs K => by kernel_rfl
theorem o44o1 : SumOk C44 KK (sumT T44o1 (L44o1 KK)) (.loop b44o1) := loop_ok T44o1 L44o1 (sums_of (t := ST44) ⟨fun _ _ h => absurd h (by decide), trivial⟩) (fun _ _ => rfl) q44o1
theorem r44 : ∀ vs, tw44 vs = bodyK C44 (lkS ST44) Try.f44 (sig 44) c44 (fillAs A44 0 vs) := fun vs => by kernel_rfl
theorem ok44 : OkS sig (Gd G dep (dep 44)) 44 th44 := fun xs q h => body_ok Try.func44 (c := c44) rfl A44 tw44 (sums_of (C := C44) (t := ST44) ⟨sum_in (c' := .loop b44o1) (by kernel_rfl) (o44o1), trivial⟩) r44 (by rw [← tpw44]; exact opt_gOf h)
noncomputable def C14 : Ctx := ⟨Try.prog, sig, Gd G dep (dep 14), (sig 14).keep, (sig 14).ord⟩
noncomputable def c14 : Code := Try.f14.body.getD .skip
def ST14 : List (Nat × (St → Cont (List DV × List (List D)) → Rs)) := []
theorem r14 : ∀ vs, tw14 vs = bodyK C14 (lkS ST14) Try.f14 (sig 14) c14 (fillAs A14 0 vs) := fun vs => by kernel_rfl
theorem ok14 : OkS sig (Gd G dep (dep 14)) 14 th14 := fun xs q h => body_ok Try.func14 (c := c14) rfl A14 tw14 (sums_of (C := C14) (t := ST14) trivial) r14 (by rw [← tpw14]; exact opt_gOf h)
noncomputable def C86 : Ctx := ⟨Try.prog, sig, Gd G dep (dep 86), (sig 86).keep, (sig 86).ord⟩
noncomputable def c86 : Code := Try.f86.body.getD .skip
def T86o1 : TSt := ⟨[dI, dS, dS, dB, .any], []⟩
def X86o1e1 : TSt := ⟨[dI, dS, dS, dB, dB], []⟩
def L86o1 (m : Nat) (vs : List Vr) (K : Cont (List DV × List (List D))) : Rs := l86o1 (vS vs 1) (vB vs 3) (fun n16 s17 b18 => K (.exit 0) (fillS X86o1e1 [.i (n16), .s (vS vs 1), .s (s17), .b (vB vs 3), .b (b18)])) m (vI vs 0) (vS vs 2) (vV vs 4)
def ST86 : List (Nat × (St → Cont (List DV × List (List D)) → Rs)) := [(1, sumT T86o1 (L86o1 KK))]
noncomputable def b86o1 : Code := match nodeAt c86 1 with | some (.loop a) => a | _ => .skip
theorem q86o1 : ∀ m vs K, L86o1 (m + 1) vs K = denK C86 (lkS ST86) b86o1 2 (fillS T86o1 vs) (loopK T86o1 (L86o1 m) K) := fun m vs K => by kernel_rfl
theorem o86o1 : SumOk C86 KK (sumT T86o1 (L86o1 KK)) (.loop b86o1) := loop_ok T86o1 L86o1 (sums_of (t := ST86) ⟨fun _ _ h => absurd h (by decide), trivial⟩) (fun _ _ => rfl) q86o1
theorem r86 : ∀ vs, tw86 vs = bodyK C86 (lkS ST86) Try.f86 (sig 86) c86 (fillAs A86 0 vs) := fun vs => by kernel_rfl
theorem ok86 : OkS sig (Gd G dep (dep 86)) 86 th86 := fun xs q h => body_ok Try.func86 (c := c86) rfl A86 tw86 (sums_of (C := C86) (t := ST86) ⟨sum_in (c' := .loop b86o1) (by kernel_rfl) (o86o1), trivial⟩) r86 (by rw [← tpw86]; exact opt_gOf h)
noncomputable def C87 : Ctx := ⟨Try.prog, sig, Gd G dep (dep 87), (sig 87).keep, (sig 87).ord⟩
noncomputable def c87 : Code := Try.f87.body.getD .skip
def T87o0 : TSt := ⟨[.own 1, dI, dI, dI, .any], [(1, .row 999999999 2)]⟩
def X87o0e1 : TSt := ⟨[.own 1, dI, dI, dI, dB], [(1, .row 999999999 2)]⟩
def L87o0 (m : Nat) (vs : List Vr) (K : Cont (List DV × List (List D))) : Rs := la87o0 tu86 (vI vs 1) (fun n17 n18 b19 l20 => K (.exit 0) (fillS X87o0e1 [.i (n17), .i (vI vs 1), .i (n18), .b (b19), .l (l20)])) m (vI vs 0) (vI vs 2) (vV vs 3) (vL vs 4)
def ST87 : List (Nat × (St → Cont (List DV × List (List D)) → Rs)) := [(0, sumT T87o0 (L87o0 KK))]
noncomputable def b87o0 : Code := match nodeAt c87 0 with | some (.loop a) => a | _ => .skip
theorem q87o0 : ∀ m vs K, L87o0 (m + 1) vs K = denK C87 (lkS ST87) b87o0 1 (fillS T87o0 vs) (loopK T87o0 (L87o0 m) K) := fun m vs K => by kernel_rfl
theorem o87o0 : SumOk C87 KK (sumT T87o0 (L87o0 KK)) (.loop b87o0) := loop_ok T87o0 L87o0 (sums_of (t := ST87) ⟨fun _ _ h => absurd h (by decide), trivial⟩) (fun _ _ => rfl) q87o0
theorem r87 : ∀ vs, tw87 vs = bodyK C87 (lkS ST87) Try.f87 (sig 87) c87 (fillAs A87 0 vs) := fun vs => by kernel_rfl
theorem ok87 : OkS sig (Gd G dep (dep 87)) 87 th87 := fun xs q h => body_ok Try.func87 (c := c87) rfl A87 tw87 (sums_of (C := C87) (t := ST87) ⟨sum_in (c' := .loop b87o0) (by kernel_rfl) (o87o0), trivial⟩) r87 (by rw [← tpw87]; exact opt_gOf h)
noncomputable def C51 : Ctx := ⟨Try.prog, sig, Gd G dep (dep 51), (sig 51).keep, (sig 51).ord⟩
noncomputable def c51 : Code := Try.f51.body.getD .skip
def T51o0 : TSt := ⟨[.own 1, dI, dI, dI, .any], [(1, .row 999999999 9)]⟩
def X51o0e1 : TSt := ⟨[.own 1, dI, dI, dI, dB], [(1, .row 999999999 9)]⟩
def L51o0 (m : Nat) (vs : List Vr) (K : Cont (List DV × List (List D))) : Rs := la51o0 tu86 tu87 (vI vs 1) (fun n17 n18 b19 l20 => K (.exit 0) (fillS X51o0e1 [.i (n17), .i (vI vs 1), .i (n18), .b (b19), .l (l20)])) m (vI vs 0) (vI vs 2) (vV vs 3) (vL vs 4)
def ST51 : List (Nat × (St → Cont (List DV × List (List D)) → Rs)) := [(0, sumT T51o0 (L51o0 KK))]
noncomputable def b51o0 : Code := match nodeAt c51 0 with | some (.loop a) => a | _ => .skip
theorem q51o0 : ∀ m vs K, L51o0 (m + 1) vs K = denK C51 (lkS ST51) b51o0 1 (fillS T51o0 vs) (loopK T51o0 (L51o0 m) K) := fun m vs K => by kernel_rfl
theorem o51o0 : SumOk C51 KK (sumT T51o0 (L51o0 KK)) (.loop b51o0) := loop_ok T51o0 L51o0 (sums_of (t := ST51) ⟨fun _ _ h => absurd h (by decide), trivial⟩) (fun _ _ => rfl) q51o0
theorem r51 : ∀ vs, tw51 vs = bodyK C51 (lkS ST51) Try.f51 (sig 51) c51 (fillAs A51 0 vs) := fun vs => by kernel_rfl
theorem ok51 : OkS sig (Gd G dep (dep 51)) 51 th51 := fun xs q h => body_ok Try.func51 (c := c51) rfl A51 tw51 (sums_of (C := C51) (t := ST51) ⟨sum_in (c' := .loop b51o0) (by kernel_rfl) (o51o0), trivial⟩) r51 (by rw [← tpw51]; exact opt_gOf h)
noncomputable def C45 : Ctx := ⟨Try.prog, sig, Gd G dep (dep 45), (sig 45).keep, (sig 45).ord⟩
noncomputable def c45 : Code := Try.f45.body.getD .skip
def ST45 : List (Nat × (St → Cont (List DV × List (List D)) → Rs)) := []
theorem r45 : ∀ vs, tw45 vs = bodyK C45 (lkS ST45) Try.f45 (sig 45) c45 (fillAs A45 0 vs) := fun vs => by kernel_rfl
theorem ok45 : OkS sig (Gd G dep (dep 45)) 45 th45 := fun xs q h => body_ok Try.func45 (c := c45) rfl A45 tw45 (sums_of (C := C45) (t := ST45) trivial) r45 (by rw [← tpw45]; exact opt_gOf h)
noncomputable def C46 : Ctx := ⟨Try.prog, sig, Gd G dep (dep 46), (sig 46).keep, (sig 46).ord⟩
noncomputable def c46 : Code := Try.f46.body.getD .skip
def T46o0 : TSt := ⟨[.own 1, dI, dI, dI, .any], [(1, .row 999999999 5)]⟩
def X46o0e1 : TSt := ⟨[.own 1, dI, dI, dI, dB], [(1, .row 999999999 5)]⟩
def L46o0 (m : Nat) (vs : List Vr) (K : Cont (List DV × List (List D))) : Rs := l46o0 (vI vs 1) (fun n17 n18 b19 l20 => K (.exit 0) (fillS X46o0e1 [.i (n17), .i (vI vs 1), .i (n18), .b (b19), .l (l20)])) m (vI vs 0) (vI vs 2) (vV vs 3) (vL vs 4)
def ST46 : List (Nat × (St → Cont (List DV × List (List D)) → Rs)) := [(0, sumT T46o0 (L46o0 KK))]
noncomputable def b46o0 : Code := match nodeAt c46 0 with | some (.loop a) => a | _ => .skip
theorem q46o0 : ∀ m vs K, L46o0 (m + 1) vs K = denK C46 (lkS ST46) b46o0 1 (fillS T46o0 vs) (loopK T46o0 (L46o0 m) K) := fun m vs K => by kernel_rfl
theorem o46o0 : SumOk C46 KK (sumT T46o0 (L46o0 KK)) (.loop b46o0) := loop_ok T46o0 L46o0 (sums_of (t := ST46) ⟨fun _ _ h => absurd h (by decide), trivial⟩) (fun _ _ => rfl) q46o0
theorem r46 : ∀ vs, tw46 vs = bodyK C46 (lkS ST46) Try.f46 (sig 46) c46 (fillAs A46 0 vs) := fun vs => by kernel_rfl
theorem ok46 : OkS sig (Gd G dep (dep 46)) 46 th46 := fun xs q h => body_ok Try.func46 (c := c46) rfl A46 tw46 (sums_of (C := C46) (t := ST46) ⟨sum_in (c' := .loop b46o0) (by kernel_rfl) (o46o0), trivial⟩) r46 (by rw [← tpw46]; exact opt_gOf h)
noncomputable def C47 : Ctx := ⟨Try.prog, sig, Gd G dep (dep 47), (sig 47).keep, (sig 47).ord⟩
noncomputable def c47 : Code := Try.f47.body.getD .skip
def T47o0 : TSt := ⟨[.own 1, dI, dI, dI, .any], [(1, .row 999999999 5)]⟩
def X47o0e1 : TSt := ⟨[.own 1, dI, dI, dI, dB], [(1, .row 999999999 5)]⟩
def L47o0 (m : Nat) (vs : List Vr) (K : Cont (List DV × List (List D))) : Rs := la47o0 tu86 (vI vs 1) (fun n17 n18 b19 l20 => K (.exit 0) (fillS X47o0e1 [.i (n17), .i (vI vs 1), .i (n18), .b (b19), .l (l20)])) m (vI vs 0) (vI vs 2) (vV vs 3) (vL vs 4)
def ST47 : List (Nat × (St → Cont (List DV × List (List D)) → Rs)) := [(0, sumT T47o0 (L47o0 KK))]
noncomputable def b47o0 : Code := match nodeAt c47 0 with | some (.loop a) => a | _ => .skip
theorem q47o0 : ∀ m vs K, L47o0 (m + 1) vs K = denK C47 (lkS ST47) b47o0 1 (fillS T47o0 vs) (loopK T47o0 (L47o0 m) K) := fun m vs K => by kernel_rfl
theorem o47o0 : SumOk C47 KK (sumT T47o0 (L47o0 KK)) (.loop b47o0) := loop_ok T47o0 L47o0 (sums_of (t := ST47) ⟨fun _ _ h => absurd h (by decide), trivial⟩) (fun _ _ => rfl) q47o0
theorem r47 : ∀ vs, tw47 vs = bodyK C47 (lkS ST47) Try.f47 (sig 47) c47 (fillAs A47 0 vs) := fun vs => by kernel_rfl
theorem ok47 : OkS sig (Gd G dep (dep 47)) 47 th47 := fun xs q h => body_ok Try.func47 (c := c47) rfl A47 tw47 (sums_of (C := C47) (t := ST47) ⟨sum_in (c' := .loop b47o0) (by kernel_rfl) (o47o0), trivial⟩) r47 (by rw [← tpw47]; exact opt_gOf h)
noncomputable def C15 : Ctx := ⟨Try.prog, sig, Gd G dep (dep 15), (sig 15).keep, (sig 15).ord⟩
noncomputable def c15 : Code := Try.f15.body.getD .skip
def ST15 : List (Nat × (St → Cont (List DV × List (List D)) → Rs)) := []
theorem r15 : ∀ vs, tw15 vs = bodyK C15 (lkS ST15) Try.f15 (sig 15) c15 (fillAs A15 0 vs) := fun vs => by kernel_rfl
theorem ok15 : OkS sig (Gd G dep (dep 15)) 15 th15 := fun xs q h => body_ok Try.func15 (c := c15) rfl A15 tw15 (sums_of (C := C15) (t := ST15) trivial) r15 (by rw [← tpw15]; exact opt_gOf h)
noncomputable def C88 : Ctx := ⟨Try.prog, sig, Gd G dep (dep 88), (sig 88).keep, (sig 88).ord⟩
noncomputable def c88 : Code := Try.f88.body.getD .skip
def T88o0 : TSt := ⟨[dL, dI, dI, dI, .any, .any, .any], []⟩
def X88o0e1 : TSt := ⟨[dL, dI, dI, dI, dB, dB, .any], []⟩
def X88o0e2 : TSt := ⟨[dL, dI, dI, dI, dB, dB, dB], []⟩
def X88o0e3 : TSt := ⟨[dL, dI, dI, dI, dB, .any, .any], []⟩
def L88o0 (m : Nat) (vs : List Vr) (K : Cont (List DV × List (List D))) : Rs := la88o0 tu86 (vL vs 0) (vI vs 2) (fun n21 n22 b23 b24 v25 => K .ret (fillS X88o0e1 [.l (vL vs 0), .i (n21), .i ((-1 : Int)), .i (n22), .b (b23), .b (b24), .v (v25)])) (fun n26 n27 b28 b29 b30 => K .ret (fillS X88o0e2 [.l (vL vs 0), .i (n26), .i ((-1 : Int)), .i (n27), .b (b28), .b (b29), .b (b30)])) (fun n31 n32 b33 v34 v35 => K (.exit 0) (fillS X88o0e3 [.l (vL vs 0), .i (n31), .i (vI vs 2), .i (n32), .b (b33), .v (v34), .v (v35)])) m (vI vs 1) (vI vs 3) (vV vs 4) (vV vs 5) (vV vs 6)
def ST88 : List (Nat × (St → Cont (List DV × List (List D)) → Rs)) := [(0, sumT T88o0 (L88o0 KK))]
noncomputable def b88o0 : Code := match nodeAt c88 0 with | some (.loop a) => a | _ => .skip
theorem q88o0 : ∀ m vs K, L88o0 (m + 1) vs K = denK C88 (lkS ST88) b88o0 1 (fillS T88o0 vs) (loopK T88o0 (L88o0 m) K) := fun m vs K => by kernel_rfl
theorem o88o0 : SumOk C88 KK (sumT T88o0 (L88o0 KK)) (.loop b88o0) := loop_ok T88o0 L88o0 (sums_of (t := ST88) ⟨fun _ _ h => absurd h (by decide), trivial⟩) (fun _ _ => rfl) q88o0
theorem r88 : ∀ vs, tw88 vs = bodyK C88 (lkS ST88) Try.f88 (sig 88) c88 (fillAs A88 0 vs) := fun vs => by kernel_rfl
theorem ok88 : OkS sig (Gd G dep (dep 88)) 88 th88 := fun xs q h => body_ok Try.func88 (c := c88) rfl A88 tw88 (sums_of (C := C88) (t := ST88) ⟨sum_in (c' := .loop b88o0) (by kernel_rfl) (o88o0), trivial⟩) r88 (by rw [← tpw88]; exact opt_gOf h)
noncomputable def C52 : Ctx := ⟨Try.prog, sig, Gd G dep (dep 52), (sig 52).keep, (sig 52).ord⟩
noncomputable def c52 : Code := Try.f52.body.getD .skip
def T52o0 : TSt := ⟨[dL, dI, dI, dI, .any, .any, .any, .any, .any, .any, .any, .any, .any, .any], []⟩
def X52o0e1 : TSt := ⟨[dL, dI, dI, dI, dB, dB, .any, .any, .any, .any, .any, .any, .any, .any], []⟩
def X52o0e2 : TSt := ⟨[dL, dI, dI, dI, dB, dB, dB, .any, .any, .any, .any, .any, .any, .any], []⟩
def X52o0e3 : TSt := ⟨[dL, dI, dI, dI, dB, dB, dB, dB, .any, .any, .any, .any, .any, .any], []⟩
def X52o0e4 : TSt := ⟨[dL, dI, dI, dI, dB, dB, dB, dB, dB, .any, .any, .any, .any, .any], []⟩
def X52o0e5 : TSt := ⟨[dL, dI, dI, dI, dB, dB, dB, dB, dB, dB, .any, .any, .any, .any], []⟩
def X52o0e6 : TSt := ⟨[dL, dI, dI, dI, dB, dB, dB, dB, dB, dB, dB, .any, .any, .any], []⟩
def X52o0e7 : TSt := ⟨[dL, dI, dI, dI, dB, dB, dB, dB, dB, dB, dB, dB, .any, .any], []⟩
def X52o0e8 : TSt := ⟨[dL, dI, dI, dI, dB, dB, dB, dB, dB, dB, dB, dB, dB, .any], []⟩
def X52o0e9 : TSt := ⟨[dL, dI, dI, dI, dB, dB, dB, dB, dB, dB, dB, dB, dB, dB], []⟩
def X52o0e10 : TSt := ⟨[dL, dI, dI, dI, dB, .any, .any, .any, .any, .any, .any, .any, .any, .any], []⟩
def L52o0 (m : Nat) (vs : List Vr) (K : Cont (List DV × List (List D))) : Rs := la52o0 tu86 tu88 (vL vs 0) (vI vs 2) (fun n35 n36 b37 b38 v39 v40 v41 v42 v43 v44 v45 v46 => K .ret (fillS X52o0e1 [.l (vL vs 0), .i (n35), .i ((-1 : Int)), .i (n36), .b (b37), .b (b38), .v (v39), .v (v40), .v (v41), .v (v42), .v (v43), .v (v44), .v (v45), .v (v46)])) (fun n47 n48 b49 b50 b51 v52 v53 v54 v55 v56 v57 v58 => K .ret (fillS X52o0e2 [.l (vL vs 0), .i (n47), .i ((-1 : Int)), .i (n48), .b (b49), .b (b50), .b (b51), .v (v52), .v (v53), .v (v54), .v (v55), .v (v56), .v (v57), .v (v58)])) (fun n59 n60 b61 b62 b63 b64 v65 v66 v67 v68 v69 v70 => K .ret (fillS X52o0e3 [.l (vL vs 0), .i (n59), .i ((-1 : Int)), .i (n60), .b (b61), .b (b62), .b (b63), .b (b64), .v (v65), .v (v66), .v (v67), .v (v68), .v (v69), .v (v70)])) (fun n71 n72 b73 b74 b75 b76 b77 v78 v79 v80 v81 v82 => K .ret (fillS X52o0e4 [.l (vL vs 0), .i (n71), .i ((-1 : Int)), .i (n72), .b (b73), .b (b74), .b (b75), .b (b76), .b (b77), .v (v78), .v (v79), .v (v80), .v (v81), .v (v82)])) (fun n83 n84 b85 b86 b87 b88 b89 b90 v91 v92 v93 v94 => K .ret (fillS X52o0e5 [.l (vL vs 0), .i (n83), .i ((-1 : Int)), .i (n84), .b (b85), .b (b86), .b (b87), .b (b88), .b (b89), .b (b90), .v (v91), .v (v92), .v (v93), .v (v94)])) (fun n95 n96 b97 b98 b99 b100 b101 b102 b103 v104 v105 v106 => K .ret (fillS X52o0e6 [.l (vL vs 0), .i (n95), .i ((-1 : Int)), .i (n96), .b (b97), .b (b98), .b (b99), .b (b100), .b (b101), .b (b102), .b (b103), .v (v104), .v (v105), .v (v106)])) (fun n107 n108 b109 b110 b111 b112 b113 b114 b115 b116 v117 v118 => K .ret (fillS X52o0e7 [.l (vL vs 0), .i (n107), .i ((-1 : Int)), .i (n108), .b (b109), .b (b110), .b (b111), .b (b112), .b (b113), .b (b114), .b (b115), .b (b116), .v (v117), .v (v118)])) (fun n119 n120 b121 b122 b123 b124 b125 b126 b127 b128 b129 v130 => K .ret (fillS X52o0e8 [.l (vL vs 0), .i (n119), .i ((-1 : Int)), .i (n120), .b (b121), .b (b122), .b (b123), .b (b124), .b (b125), .b (b126), .b (b127), .b (b128), .b (b129), .v (v130)])) (fun n131 n132 b133 b134 b135 b136 b137 b138 b139 b140 b141 b142 => K .ret (fillS X52o0e9 [.l (vL vs 0), .i (n131), .i ((-1 : Int)), .i (n132), .b (b133), .b (b134), .b (b135), .b (b136), .b (b137), .b (b138), .b (b139), .b (b140), .b (b141), .b (b142)])) (fun n143 n144 b145 v146 v147 v148 v149 v150 v151 v152 v153 v154 => K (.exit 0) (fillS X52o0e10 [.l (vL vs 0), .i (n143), .i (vI vs 2), .i (n144), .b (b145), .v (v146), .v (v147), .v (v148), .v (v149), .v (v150), .v (v151), .v (v152), .v (v153), .v (v154)])) m (vI vs 1) (vI vs 3) (vV vs 4) (vV vs 5) (vV vs 6) (vV vs 7) (vV vs 8) (vV vs 9) (vV vs 10) (vV vs 11) (vV vs 12) (vV vs 13)
def ST52 : List (Nat × (St → Cont (List DV × List (List D)) → Rs)) := [(0, sumT T52o0 (L52o0 KK))]
noncomputable def b52o0 : Code := match nodeAt c52 0 with | some (.loop a) => a | _ => .skip
theorem q52o0 : ∀ m vs K, L52o0 (m + 1) vs K = denK C52 (lkS ST52) b52o0 1 (fillS T52o0 vs) (loopK T52o0 (L52o0 m) K) := fun m vs K => by kernel_rfl
theorem o52o0 : SumOk C52 KK (sumT T52o0 (L52o0 KK)) (.loop b52o0) := loop_ok T52o0 L52o0 (sums_of (t := ST52) ⟨fun _ _ h => absurd h (by decide), trivial⟩) (fun _ _ => rfl) q52o0
theorem r52 : ∀ vs, tw52 vs = bodyK C52 (lkS ST52) Try.f52 (sig 52) c52 (fillAs A52 0 vs) := fun vs => by kernel_rfl
theorem ok52 : OkS sig (Gd G dep (dep 52)) 52 th52 := fun xs q h => body_ok Try.func52 (c := c52) rfl A52 tw52 (sums_of (C := C52) (t := ST52) ⟨sum_in (c' := .loop b52o0) (by kernel_rfl) (o52o0), trivial⟩) r52 (by rw [← tpw52]; exact opt_gOf h)
noncomputable def C48 : Ctx := ⟨Try.prog, sig, Gd G dep (dep 48), (sig 48).keep, (sig 48).ord⟩
noncomputable def c48 : Code := Try.f48.body.getD .skip
def ST48 : List (Nat × (St → Cont (List DV × List (List D)) → Rs)) := []
theorem r48 : ∀ vs, tw48 vs = bodyK C48 (lkS ST48) Try.f48 (sig 48) c48 (fillAs A48 0 vs) := fun vs => by kernel_rfl
theorem ok48 : OkS sig (Gd G dep (dep 48)) 48 th48 := fun xs q h => body_ok Try.func48 (c := c48) rfl A48 tw48 (sums_of (C := C48) (t := ST48) trivial) r48 (by rw [← tpw48]; exact opt_gOf h)
noncomputable def C49 : Ctx := ⟨Try.prog, sig, Gd G dep (dep 49), (sig 49).keep, (sig 49).ord⟩
noncomputable def c49 : Code := Try.f49.body.getD .skip
def T49o0 : TSt := ⟨[dL, dI, dI, dI, .any, .any, .any, .any, .any, .any], []⟩
def X49o0e1 : TSt := ⟨[dL, dI, dI, dI, dB, dB, .any, .any, .any, .any], []⟩
def X49o0e2 : TSt := ⟨[dL, dI, dI, dI, dB, dB, dB, .any, .any, .any], []⟩
def X49o0e3 : TSt := ⟨[dL, dI, dI, dI, dB, dB, dB, dB, .any, .any], []⟩
def X49o0e4 : TSt := ⟨[dL, dI, dI, dI, dB, dB, dB, dB, dB, .any], []⟩
def X49o0e5 : TSt := ⟨[dL, dI, dI, dI, dB, dB, dB, dB, dB, dB], []⟩
def X49o0e6 : TSt := ⟨[dL, dI, dI, dI, dB, .any, .any, .any, .any, .any], []⟩
def L49o0 (m : Nat) (vs : List Vr) (K : Cont (List DV × List (List D))) : Rs := l49o0 (vL vs 0) (vI vs 2) (fun n27 n28 b29 b30 v31 v32 v33 v34 => K .ret (fillS X49o0e1 [.l (vL vs 0), .i (n27), .i ((-1 : Int)), .i (n28), .b (b29), .b (b30), .v (v31), .v (v32), .v (v33), .v (v34)])) (fun n35 n36 b37 b38 b39 v40 v41 v42 => K .ret (fillS X49o0e2 [.l (vL vs 0), .i (n35), .i ((-1 : Int)), .i (n36), .b (b37), .b (b38), .b (b39), .v (v40), .v (v41), .v (v42)])) (fun n43 n44 b45 b46 b47 b48 v49 v50 => K .ret (fillS X49o0e3 [.l (vL vs 0), .i (n43), .i ((-1 : Int)), .i (n44), .b (b45), .b (b46), .b (b47), .b (b48), .v (v49), .v (v50)])) (fun n51 n52 b53 b54 b55 b56 b57 v58 => K .ret (fillS X49o0e4 [.l (vL vs 0), .i (n51), .i ((-1 : Int)), .i (n52), .b (b53), .b (b54), .b (b55), .b (b56), .b (b57), .v (v58)])) (fun n59 n60 b61 b62 b63 b64 b65 b66 => K .ret (fillS X49o0e5 [.l (vL vs 0), .i (n59), .i ((-1 : Int)), .i (n60), .b (b61), .b (b62), .b (b63), .b (b64), .b (b65), .b (b66)])) (fun n67 n68 b69 v70 v71 v72 v73 v74 => K (.exit 0) (fillS X49o0e6 [.l (vL vs 0), .i (n67), .i (vI vs 2), .i (n68), .b (b69), .v (v70), .v (v71), .v (v72), .v (v73), .v (v74)])) m (vI vs 1) (vI vs 3) (vV vs 4) (vV vs 5) (vV vs 6) (vV vs 7) (vV vs 8) (vV vs 9)
def ST49 : List (Nat × (St → Cont (List DV × List (List D)) → Rs)) := [(0, sumT T49o0 (L49o0 KK))]
noncomputable def b49o0 : Code := match nodeAt c49 0 with | some (.loop a) => a | _ => .skip
theorem q49o0 : ∀ m vs K, L49o0 (m + 1) vs K = denK C49 (lkS ST49) b49o0 1 (fillS T49o0 vs) (loopK T49o0 (L49o0 m) K) := fun m vs K => by kernel_rfl
theorem o49o0 : SumOk C49 KK (sumT T49o0 (L49o0 KK)) (.loop b49o0) := loop_ok T49o0 L49o0 (sums_of (t := ST49) ⟨fun _ _ h => absurd h (by decide), trivial⟩) (fun _ _ => rfl) q49o0
theorem r49 : ∀ vs, tw49 vs = bodyK C49 (lkS ST49) Try.f49 (sig 49) c49 (fillAs A49 0 vs) := fun vs => by kernel_rfl
theorem ok49 : OkS sig (Gd G dep (dep 49)) 49 th49 := fun xs q h => body_ok Try.func49 (c := c49) rfl A49 tw49 (sums_of (C := C49) (t := ST49) ⟨sum_in (c' := .loop b49o0) (by kernel_rfl) (o49o0), trivial⟩) r49 (by rw [← tpw49]; exact opt_gOf h)
noncomputable def C50 : Ctx := ⟨Try.prog, sig, Gd G dep (dep 50), (sig 50).keep, (sig 50).ord⟩
noncomputable def c50 : Code := Try.f50.body.getD .skip
def T50o0 : TSt := ⟨[dL, dI, dI, dI, .any, .any, .any, .any, .any, .any], []⟩
def X50o0e1 : TSt := ⟨[dL, dI, dI, dI, dB, dB, .any, .any, .any, .any], []⟩
def X50o0e2 : TSt := ⟨[dL, dI, dI, dI, dB, dB, dB, .any, .any, .any], []⟩
def X50o0e3 : TSt := ⟨[dL, dI, dI, dI, dB, dB, dB, dB, .any, .any], []⟩
def X50o0e4 : TSt := ⟨[dL, dI, dI, dI, dB, dB, dB, dB, dB, .any], []⟩
def X50o0e5 : TSt := ⟨[dL, dI, dI, dI, dB, dB, dB, dB, dB, dB], []⟩
def X50o0e6 : TSt := ⟨[dL, dI, dI, dI, dB, .any, .any, .any, .any, .any], []⟩
def L50o0 (m : Nat) (vs : List Vr) (K : Cont (List DV × List (List D))) : Rs := la50o0 tu86 (vL vs 0) (vI vs 2) (fun n27 n28 b29 b30 v31 v32 v33 v34 => K .ret (fillS X50o0e1 [.l (vL vs 0), .i (n27), .i ((-1 : Int)), .i (n28), .b (b29), .b (b30), .v (v31), .v (v32), .v (v33), .v (v34)])) (fun n35 n36 b37 b38 b39 v40 v41 v42 => K .ret (fillS X50o0e2 [.l (vL vs 0), .i (n35), .i ((-1 : Int)), .i (n36), .b (b37), .b (b38), .b (b39), .v (v40), .v (v41), .v (v42)])) (fun n43 n44 b45 b46 b47 b48 v49 v50 => K .ret (fillS X50o0e3 [.l (vL vs 0), .i (n43), .i ((-1 : Int)), .i (n44), .b (b45), .b (b46), .b (b47), .b (b48), .v (v49), .v (v50)])) (fun n51 n52 b53 b54 b55 b56 b57 v58 => K .ret (fillS X50o0e4 [.l (vL vs 0), .i (n51), .i ((-1 : Int)), .i (n52), .b (b53), .b (b54), .b (b55), .b (b56), .b (b57), .v (v58)])) (fun n59 n60 b61 b62 b63 b64 b65 b66 => K .ret (fillS X50o0e5 [.l (vL vs 0), .i (n59), .i ((-1 : Int)), .i (n60), .b (b61), .b (b62), .b (b63), .b (b64), .b (b65), .b (b66)])) (fun n67 n68 b69 v70 v71 v72 v73 v74 => K (.exit 0) (fillS X50o0e6 [.l (vL vs 0), .i (n67), .i (vI vs 2), .i (n68), .b (b69), .v (v70), .v (v71), .v (v72), .v (v73), .v (v74)])) m (vI vs 1) (vI vs 3) (vV vs 4) (vV vs 5) (vV vs 6) (vV vs 7) (vV vs 8) (vV vs 9)
def ST50 : List (Nat × (St → Cont (List DV × List (List D)) → Rs)) := [(0, sumT T50o0 (L50o0 KK))]
noncomputable def b50o0 : Code := match nodeAt c50 0 with | some (.loop a) => a | _ => .skip
theorem q50o0 : ∀ m vs K, L50o0 (m + 1) vs K = denK C50 (lkS ST50) b50o0 1 (fillS T50o0 vs) (loopK T50o0 (L50o0 m) K) := fun m vs K => by kernel_rfl
theorem o50o0 : SumOk C50 KK (sumT T50o0 (L50o0 KK)) (.loop b50o0) := loop_ok T50o0 L50o0 (sums_of (t := ST50) ⟨fun _ _ h => absurd h (by decide), trivial⟩) (fun _ _ => rfl) q50o0
theorem r50 : ∀ vs, tw50 vs = bodyK C50 (lkS ST50) Try.f50 (sig 50) c50 (fillAs A50 0 vs) := fun vs => by kernel_rfl
theorem ok50 : OkS sig (Gd G dep (dep 50)) 50 th50 := fun xs q h => body_ok Try.func50 (c := c50) rfl A50 tw50 (sums_of (C := C50) (t := ST50) ⟨sum_in (c' := .loop b50o0) (by kernel_rfl) (o50o0), trivial⟩) r50 (by rw [← tpw50]; exact opt_gOf h)
noncomputable def C16 : Ctx := ⟨Try.prog, sig, Gd G dep (dep 16), (sig 16).keep, (sig 16).ord⟩
noncomputable def c16 : Code := Try.f16.body.getD .skip
def ST16 : List (Nat × (St → Cont (List DV × List (List D)) → Rs)) := []
theorem r16 : ∀ vs, tw16 vs = bodyK C16 (lkS ST16) Try.f16 (sig 16) c16 (fillAs A16 0 vs) := fun vs => by kernel_rfl
theorem ok16 : OkS sig (Gd G dep (dep 16)) 16 th16 := fun xs q h => body_ok Try.func16 (c := c16) rfl A16 tw16 (sums_of (C := C16) (t := ST16) trivial) r16 (by rw [← tpw16]; exact opt_gOf h)
noncomputable def C9 : Ctx := ⟨Try.prog, sig, Gd G dep (dep 9), (sig 9).keep, (sig 9).ord⟩
noncomputable def c9 : Code := Try.f9.body.getD .skip
def ST9 : List (Nat × (St → Cont (List DV × List (List D)) → Rs)) := []
theorem r9 : ∀ vs, tw9 vs = bodyK C9 (lkS ST9) Try.f9 (sig 9) c9 (fillAs A9 0 vs) := fun vs => by kernel_rfl
theorem ok9 : OkS sig (Gd G dep (dep 9)) 9 th9 := fun xs q h => body_ok Try.func9 (c := c9) rfl A9 tw9 (sums_of (C := C9) (t := ST9) trivial) r9 (by rw [← tpw9]; exact opt_gOf h)
theorem fn_ok : ∀ f ∈ [144, 138, 122, 89, 53, 54, 123, 90, 55, 22, 145, 140, 128, 96, 60, 97, 61, 129, 98, 62, 24, 57, 139, 124, 125, 126, 91, 92, 93, 94, 127, 95, 56, 58, 59, 23, 111, 73, 74, 34, 63, 64, 65, 141, 130, 142, 132, 131, 99, 133, 101, 100, 102, 103, 135, 105, 134, 104, 66, 25, 112, 75, 76, 35, 143, 137, 120, 83, 42, 84, 43, 121, 85, 44, 14, 86, 87, 51, 45, 46, 47, 15, 88, 52, 48, 49, 50, 16, 9], FnOk Try.prog sig f := fun f h => fnOk_of (List.all_eq_true.1 (show [144, 138, 122, 89, 53, 54, 123, 90, 55, 22, 145, 140, 128, 96, 60, 97, 61, 129, 98, 62, 24, 57, 139, 124, 125, 126, 91, 92, 93, 94, 127, 95, 56, 58, 59, 23, 111, 73, 74, 34, 63, 64, 65, 141, 130, 142, 132, 131, 99, 133, 101, 100, 102, 103, 135, 105, 134, 104, 66, 25, 112, 75, 76, 35, 143, 137, 120, 83, 42, 84, 43, 121, 85, 44, 14, 86, 87, 51, 45, 46, 47, 15, 88, 52, 48, 49, 50, 16, 9].all (fnOkB Try.prog sig) = true by kernel_rfl) f h)
theorem all_ok : AllG (fun f xs q => FnOk Try.prog sig f ∧ evalBody Try.prog sig (Gd G dep (dep f)) KK f xs = some q) gT :=
  ⟨fun xs q h => ⟨fn_ok 144 (by simp), ok144 xs q h⟩, fun xs q h => ⟨fn_ok 138 (by simp), ok138 xs q h⟩, fun xs q h => ⟨fn_ok 122 (by simp), ok122 xs q h⟩, fun xs q h => ⟨fn_ok 89 (by simp), ok89 xs q h⟩, fun xs q h => ⟨fn_ok 53 (by simp), ok53 xs q h⟩, fun xs q h => ⟨fn_ok 54 (by simp), ok54 xs q h⟩, fun xs q h => ⟨fn_ok 123 (by simp), ok123 xs q h⟩, fun xs q h => ⟨fn_ok 90 (by simp), ok90 xs q h⟩, fun xs q h => ⟨fn_ok 55 (by simp), ok55 xs q h⟩, fun xs q h => ⟨fn_ok 22 (by simp), ok22 xs q h⟩, fun xs q h => ⟨fn_ok 145 (by simp), ok145 xs q h⟩, fun xs q h => ⟨fn_ok 140 (by simp), ok140 xs q h⟩, fun xs q h => ⟨fn_ok 128 (by simp), ok128 xs q h⟩, fun xs q h => ⟨fn_ok 96 (by simp), ok96 xs q h⟩, fun xs q h => ⟨fn_ok 60 (by simp), ok60 xs q h⟩, fun xs q h => ⟨fn_ok 97 (by simp), ok97 xs q h⟩, fun xs q h => ⟨fn_ok 61 (by simp), ok61 xs q h⟩, fun xs q h => ⟨fn_ok 129 (by simp), ok129 xs q h⟩, fun xs q h => ⟨fn_ok 98 (by simp), ok98 xs q h⟩, fun xs q h => ⟨fn_ok 62 (by simp), ok62 xs q h⟩, fun xs q h => ⟨fn_ok 24 (by simp), ok24 xs q h⟩, fun xs q h => ⟨fn_ok 57 (by simp), ok57 xs q h⟩, fun xs q h => ⟨fn_ok 139 (by simp), ok139 xs q h⟩, fun xs q h => ⟨fn_ok 124 (by simp), ok124 xs q h⟩, fun xs q h => ⟨fn_ok 125 (by simp), ok125 xs q h⟩, fun xs q h => ⟨fn_ok 126 (by simp), ok126 xs q h⟩, fun xs q h => ⟨fn_ok 91 (by simp), ok91 xs q h⟩, fun xs q h => ⟨fn_ok 92 (by simp), ok92 xs q h⟩, fun xs q h => ⟨fn_ok 93 (by simp), ok93 xs q h⟩, fun xs q h => ⟨fn_ok 94 (by simp), ok94 xs q h⟩, fun xs q h => ⟨fn_ok 127 (by simp), ok127 xs q h⟩, fun xs q h => ⟨fn_ok 95 (by simp), ok95 xs q h⟩, fun xs q h => ⟨fn_ok 56 (by simp), ok56 xs q h⟩, fun xs q h => ⟨fn_ok 58 (by simp), ok58 xs q h⟩, fun xs q h => ⟨fn_ok 59 (by simp), ok59 xs q h⟩, fun xs q h => ⟨fn_ok 23 (by simp), ok23 xs q h⟩, fun xs q h => ⟨fn_ok 111 (by simp), ok111 xs q h⟩, fun xs q h => ⟨fn_ok 73 (by simp), ok73 xs q h⟩, fun xs q h => ⟨fn_ok 74 (by simp), ok74 xs q h⟩, fun xs q h => ⟨fn_ok 34 (by simp), ok34 xs q h⟩, fun xs q h => ⟨fn_ok 63 (by simp), ok63 xs q h⟩, fun xs q h => ⟨fn_ok 64 (by simp), ok64 xs q h⟩, fun xs q h => ⟨fn_ok 65 (by simp), ok65 xs q h⟩, fun xs q h => ⟨fn_ok 141 (by simp), ok141 xs q h⟩, fun xs q h => ⟨fn_ok 130 (by simp), ok130 xs q h⟩, fun xs q h => ⟨fn_ok 142 (by simp), ok142 xs q h⟩, fun xs q h => ⟨fn_ok 132 (by simp), ok132 xs q h⟩, fun xs q h => ⟨fn_ok 131 (by simp), ok131 xs q h⟩, fun xs q h => ⟨fn_ok 99 (by simp), ok99 xs q h⟩, fun xs q h => ⟨fn_ok 133 (by simp), ok133 xs q h⟩, fun xs q h => ⟨fn_ok 101 (by simp), ok101 xs q h⟩, fun xs q h => ⟨fn_ok 100 (by simp), ok100 xs q h⟩, fun xs q h => ⟨fn_ok 102 (by simp), ok102 xs q h⟩, fun xs q h => ⟨fn_ok 103 (by simp), ok103 xs q h⟩, fun xs q h => ⟨fn_ok 135 (by simp), ok135 xs q h⟩, fun xs q h => ⟨fn_ok 105 (by simp), ok105 xs q h⟩, fun xs q h => ⟨fn_ok 134 (by simp), ok134 xs q h⟩, fun xs q h => ⟨fn_ok 104 (by simp), ok104 xs q h⟩, fun xs q h => ⟨fn_ok 66 (by simp), ok66 xs q h⟩, fun xs q h => ⟨fn_ok 25 (by simp), ok25 xs q h⟩, fun xs q h => ⟨fn_ok 112 (by simp), ok112 xs q h⟩, fun xs q h => ⟨fn_ok 75 (by simp), ok75 xs q h⟩, fun xs q h => ⟨fn_ok 76 (by simp), ok76 xs q h⟩, fun xs q h => ⟨fn_ok 35 (by simp), ok35 xs q h⟩, fun xs q h => ⟨fn_ok 143 (by simp), ok143 xs q h⟩, fun xs q h => ⟨fn_ok 137 (by simp), ok137 xs q h⟩, fun xs q h => ⟨fn_ok 120 (by simp), ok120 xs q h⟩, fun xs q h => ⟨fn_ok 83 (by simp), ok83 xs q h⟩, fun xs q h => ⟨fn_ok 42 (by simp), ok42 xs q h⟩, fun xs q h => ⟨fn_ok 84 (by simp), ok84 xs q h⟩, fun xs q h => ⟨fn_ok 43 (by simp), ok43 xs q h⟩, fun xs q h => ⟨fn_ok 121 (by simp), ok121 xs q h⟩, fun xs q h => ⟨fn_ok 85 (by simp), ok85 xs q h⟩, fun xs q h => ⟨fn_ok 44 (by simp), ok44 xs q h⟩, fun xs q h => ⟨fn_ok 14 (by simp), ok14 xs q h⟩, fun xs q h => ⟨fn_ok 86 (by simp), ok86 xs q h⟩, fun xs q h => ⟨fn_ok 87 (by simp), ok87 xs q h⟩, fun xs q h => ⟨fn_ok 51 (by simp), ok51 xs q h⟩, fun xs q h => ⟨fn_ok 45 (by simp), ok45 xs q h⟩, fun xs q h => ⟨fn_ok 46 (by simp), ok46 xs q h⟩, fun xs q h => ⟨fn_ok 47 (by simp), ok47 xs q h⟩, fun xs q h => ⟨fn_ok 15 (by simp), ok15 xs q h⟩, fun xs q h => ⟨fn_ok 88 (by simp), ok88 xs q h⟩, fun xs q h => ⟨fn_ok 52 (by simp), ok52 xs q h⟩, fun xs q h => ⟨fn_ok 48 (by simp), ok48 xs q h⟩, fun xs q h => ⟨fn_ok 49 (by simp), ok49 xs q h⟩, fun xs q h => ⟨fn_ok 50 (by simp), ok50 xs q h⟩, fun xs q h => ⟨fn_ok 16 (by simp), ok16 xs q h⟩, fun xs q h => ⟨fn_ok 9 (by simp), ok9 xs q h⟩, trivial⟩
theorem G_ok (f : Nat) : SpecOk Try.prog (sig f) (fun xs => opt (G f xs)) f := G_spec (by kernel_rfl) (allG_of all_ok) f
end
end Go.Den.L9
