/- The functions' table, and that each is what its twin says. Printed by tw.py. -/
import Derived.Test.YthnpflcemooaeaaL8Tw
import Derived.Test.YthnpflcemooaeaaProg
import Derived.KernelRfl
set_option linter.unusedVariables false
namespace Go.Den.L8
open Go Go.Proofs
noncomputable section
set_option maxRecDepth 100000
def U {α : Type} (a : α) : α := Classical.choose (⟨a, rfl⟩ : ∃ f, f = a)
theorem U_eq {α : Type} (a : α) : U a = a := Classical.choose_spec (⟨a, rfl⟩ : ∃ f, f = a)
abbrev dI : TV := .d (.i .i64)
abbrev dB : TV := .d .b
abbrev dS : TV := .d .s
abbrev dL : TV := .d .l
def OkS (sig : Nat → Sig) (g : Nat → List DV → Bool × List DV × List (List D)) (f : Nat) (th : List DV → Bool × List DV × List (List D)) : Prop := ∀ xs q, opt (th xs) = some q → evalBody Try.prog sig g KK f xs = some q
def tu144 := U t144
theorem te144 : t144 = t144 := rfl
def tw144 (vs : List Vr) : Rs := t144 (vS vs 0) (vI vs 1) (vI vs 2)
def tp144 (vs : List Vr) : Rs := tu144 (vS vs 0) (vI vs 1) (vI vs 2)
theorem tpw144 : tp144 = tw144 := funext fun vs => by unfold tp144 tw144; rw [show tu144 = t144 from U_eq _, te144]
def th144 := fun xs => gOf zr144 zo144 (argsT A144 tp144 xs)
def tu138 := U t138
theorem te138 : ta138 tu144 = t138 := (by rw [show tu144 = t144 from U_eq _] : ta138 tu144 = ta138 t144).trans rfl
def tw138 (vs : List Vr) : Rs := ta138 tu144 (vL vs 0) (vI vs 1)
def tp138 (vs : List Vr) : Rs := tu138 (vL vs 0) (vI vs 1)
theorem tpw138 : tp138 = tw138 := funext fun vs => by unfold tp138 tw138; rw [show tu138 = t138 from U_eq _, te138]
def th138 := fun xs => gOf zr138 zo138 (argsT A138 tp138 xs)
def tu122 := U t122
theorem te122 : ta122 tu138 = t122 := (by rw [show tu138 = t138 from U_eq _] : ta122 tu138 = ta122 t138).trans rfl
def tw122 (vs : List Vr) : Rs := ta122 tu138 (vI vs 0) (vI vs 1) (vI vs 2) (vI vs 3) (vI vs 4) (vS vs 5) (vL vs 6) (vI vs 7) (vI vs 8) (vI vs 9)
def tp122 (vs : List Vr) : Rs := tu122 (vI vs 0) (vI vs 1) (vI vs 2) (vI vs 3) (vI vs 4) (vS vs 5) (vL vs 6) (vI vs 7) (vI vs 8) (vI vs 9)
theorem tpw122 : tp122 = tw122 := funext fun vs => by unfold tp122 tw122; rw [show tu122 = t122 from U_eq _, te122]
def th122 := fun xs => gOf zr122 zo122 (argsT A122 tp122 xs)
def tu89 := U t89
theorem te89 : ta89 tu122 = t89 := (by rw [show tu122 = t122 from U_eq _] : ta89 tu122 = ta89 t122).trans rfl
def tw89 (vs : List Vr) : Rs := ta89 tu122 (vL vs 0) (vI vs 1)
def tp89 (vs : List Vr) : Rs := tu89 (vL vs 0) (vI vs 1)
theorem tpw89 : tp89 = tw89 := funext fun vs => by unfold tp89 tw89; rw [show tu89 = t89 from U_eq _, te89]
def th89 := fun xs => gOf zr89 zo89 (argsT A89 tp89 xs)
def tu53 := U t53
theorem te53 : ta53 tu89 = t53 := (by rw [show tu89 = t89 from U_eq _] : ta53 tu89 = ta53 t89).trans rfl
def tw53 (vs : List Vr) : Rs := ta53 tu89 (vI vs 0) (vL vs 1) (vI vs 2)
def tp53 (vs : List Vr) : Rs := tu53 (vI vs 0) (vL vs 1) (vI vs 2)
theorem tpw53 : tp53 = tw53 := funext fun vs => by unfold tp53 tw53; rw [show tu53 = t53 from U_eq _, te53]
def th53 := fun xs => gOf zr53 zo53 (argsT A53 tp53 xs)
def tu54 := U t54
theorem te54 : t54 = t54 := rfl
def tw54 (vs : List Vr) : Rs := t54 (vL vs 0) (vI vs 1)
def tp54 (vs : List Vr) : Rs := tu54 (vL vs 0) (vI vs 1)
theorem tpw54 : tp54 = tw54 := funext fun vs => by unfold tp54 tw54; rw [show tu54 = t54 from U_eq _, te54]
def th54 := fun xs => gOf zr54 zo54 (argsT A54 tp54 xs)
def tu123 := U t123
theorem te123 : t123 = t123 := rfl
def tw123 (vs : List Vr) : Rs := t123 (vI vs 0) (vS vs 1) (vI vs 2)
def tp123 (vs : List Vr) : Rs := tu123 (vI vs 0) (vS vs 1) (vI vs 2)
theorem tpw123 : tp123 = tw123 := funext fun vs => by unfold tp123 tw123; rw [show tu123 = t123 from U_eq _, te123]
def th123 := fun xs => gOf zr123 zo123 (argsT A123 tp123 xs)
def tu90 := U t90
theorem te90 : ta90 tu123 = t90 := (by rw [show tu123 = t123 from U_eq _] : ta90 tu123 = ta90 t123).trans rfl
def tw90 (vs : List Vr) : Rs := ta90 tu123 (vI vs 0) (vI vs 1) (vI vs 2) (vI vs 3) (vS vs 4) (vI vs 5)
def tp90 (vs : List Vr) : Rs := tu90 (vI vs 0) (vI vs 1) (vI vs 2) (vI vs 3) (vS vs 4) (vI vs 5)
theorem tpw90 : tp90 = tw90 := funext fun vs => by unfold tp90 tw90; rw [show tu90 = t90 from U_eq _, te90]
def th90 := fun xs => gOf zr90 zo90 (argsT A90 tp90 xs)
def tu55 := U t55
theorem te55 : ta55 tu90 = t55 := (by rw [show tu90 = t90 from U_eq _] : ta55 tu90 = ta55 t90).trans rfl
def tw55 (vs : List Vr) : Rs := ta55 tu90 (vL vs 0) (vI vs 1)
def tp55 (vs : List Vr) : Rs := tu55 (vL vs 0) (vI vs 1)
theorem tpw55 : tp55 = tw55 := funext fun vs => by unfold tp55 tw55; rw [show tu55 = t55 from U_eq _, te55]
def th55 := fun xs => gOf zr55 zo55 (argsT A55 tp55 xs)
def tu22 := U t22
theorem te22 : ta22 tu53 tu54 tu55 = t22 := (by rw [show tu53 = t53 from U_eq _, show tu54 = t54 from U_eq _, show tu55 = t55 from U_eq _] : ta22 tu53 tu54 tu55 = ta22 t53 t54 t55).trans rfl
def tw22 (vs : List Vr) : Rs := ta22 tu53 tu54 tu55 (vI vs 0) (vL vs 1) (vI vs 2) (vL vs 3) (vL vs 4) (vI vs 5)
def tp22 (vs : List Vr) : Rs := tu22 (vI vs 0) (vL vs 1) (vI vs 2) (vL vs 3) (vL vs 4) (vI vs 5)
theorem tpw22 : tp22 = tw22 := funext fun vs => by unfold tp22 tw22; rw [show tu22 = t22 from U_eq _, te22]
def th22 := fun xs => gOf zr22 zo22 (argsT A22 tp22 xs)
def tu26 := U t26
theorem te26 : ta26 tu22 = t26 := (by rw [show tu22 = t22 from U_eq _] : ta26 tu22 = ta26 t22).trans rfl
def tw26 (vs : List Vr) : Rs := ta26 tu22 (vL vs 0) (vI vs 1)
def tp26 (vs : List Vr) : Rs := tu26 (vL vs 0) (vI vs 1)
theorem tpw26 : tp26 = tw26 := funext fun vs => by unfold tp26 tw26; rw [show tu26 = t26 from U_eq _, te26]
def th26 := fun xs => gOf zr26 zo26 (argsT A26 tp26 xs)
def tu145 := U t145
theorem te145 : t145 = t145 := rfl
def tw145 (vs : List Vr) : Rs := t145 (vS vs 0) (vI vs 1)
def tp145 (vs : List Vr) : Rs := tu145 (vS vs 0) (vI vs 1)
theorem tpw145 : tp145 = tw145 := funext fun vs => by unfold tp145 tw145; rw [show tu145 = t145 from U_eq _, te145]
def th145 := fun xs => gOf zr145 zo145 (argsT A145 tp145 xs)
def tu140 := U t140
theorem te140 : ta140 tu145 = t140 := (by rw [show tu145 = t145 from U_eq _] : ta140 tu145 = ta140 t145).trans rfl
def tw140 (vs : List Vr) : Rs := ta140 tu145 (vL vs 0)
def tp140 (vs : List Vr) : Rs := tu140 (vL vs 0)
theorem tpw140 : tp140 = tw140 := funext fun vs => by unfold tp140 tw140; rw [show tu140 = t140 from U_eq _, te140]
def th140 := fun xs => gOf zr140 zo140 (argsT A140 tp140 xs)
def tu128 := U t128
theorem te128 : ta128 tu140 = t128 := (by rw [show tu140 = t140 from U_eq _] : ta128 tu140 = ta128 t140).trans rfl
def tw128 (vs : List Vr) : Rs := ta128 tu140 (vI vs 0) (vI vs 1) (vI vs 2) (vI vs 3) (vI vs 4) (vS vs 5) (vL vs 6) (vI vs 7) (vI vs 8)
def tp128 (vs : List Vr) : Rs := tu128 (vI vs 0) (vI vs 1) (vI vs 2) (vI vs 3) (vI vs 4) (vS vs 5) (vL vs 6) (vI vs 7) (vI vs 8)
theorem tpw128 : tp128 = tw128 := funext fun vs => by unfold tp128 tw128; rw [show tu128 = t128 from U_eq _, te128]
def th128 := fun xs => gOf zr128 zo128 (argsT A128 tp128 xs)
def tu96 := U t96
theorem te96 : ta96 tu128 = t96 := (by rw [show tu128 = t128 from U_eq _] : ta96 tu128 = ta96 t128).trans rfl
def tw96 (vs : List Vr) : Rs := ta96 tu128 (vL vs 0)
def tp96 (vs : List Vr) : Rs := tu96 (vL vs 0)
theorem tpw96 : tp96 = tw96 := funext fun vs => by unfold tp96 tw96; rw [show tu96 = t96 from U_eq _, te96]
def th96 := fun xs => gOf zr96 zo96 (argsT A96 tp96 xs)
def tu60 := U t60
theorem te60 : ta60 tu96 = t60 := (by rw [show tu96 = t96 from U_eq _] : ta60 tu96 = ta60 t96).trans rfl
def tw60 (vs : List Vr) : Rs := ta60 tu96 (vI vs 0) (vL vs 1)
def tp60 (vs : List Vr) : Rs := tu60 (vI vs 0) (vL vs 1)
theorem tpw60 : tp60 = tw60 := funext fun vs => by unfold tp60 tw60; rw [show tu60 = t60 from U_eq _, te60]
def th60 := fun xs => gOf zr60 zo60 (argsT A60 tp60 xs)
def tu97 := U t97
theorem te97 : t97 = t97 := rfl
def tw97 (vs : List Vr) : Rs := t97 (vI vs 0) (vI vs 1) (vI vs 2) (vI vs 3) (vI vs 4)
def tp97 (vs : List Vr) : Rs := tu97 (vI vs 0) (vI vs 1) (vI vs 2) (vI vs 3) (vI vs 4)
theorem tpw97 : tp97 = tw97 := funext fun vs => by unfold tp97 tw97; rw [show tu97 = t97 from U_eq _, te97]
def th97 := fun xs => gOf zr97 zo97 (argsT A97 tp97 xs)
def tu61 := U t61
theorem te61 : ta61 tu97 = t61 := (by rw [show tu97 = t97 from U_eq _] : ta61 tu97 = ta61 t97).trans rfl
def tw61 (vs : List Vr) : Rs := ta61 tu97 (vL vs 0)
def tp61 (vs : List Vr) : Rs := tu61 (vL vs 0)
theorem tpw61 : tp61 = tw61 := funext fun vs => by unfold tp61 tw61; rw [show tu61 = t61 from U_eq _, te61]
def th61 := fun xs => gOf zr61 zo61 (argsT A61 tp61 xs)
def tu129 := U t129
theorem te129 : t129 = t129 := rfl
def tw129 (vs : List Vr) : Rs := t129 (vI vs 0) (vS vs 1)
def tp129 (vs : List Vr) : Rs := tu129 (vI vs 0) (vS vs 1)
theorem tpw129 : tp129 = tw129 := funext fun vs => by unfold tp129 tw129; rw [show tu129 = t129 from U_eq _, te129]
def th129 := fun xs => gOf zr129 zo129 (argsT A129 tp129 xs)
def tu98 := U t98
theorem te98 : ta98 tu129 = t98 := (by rw [show tu129 = t129 from U_eq _] : ta98 tu129 = ta98 t129).trans rfl
def tw98 (vs : List Vr) : Rs := ta98 tu129 (vI vs 0) (vI vs 1) (vI vs 2) (vI vs 3) (vS vs 4)
def tp98 (vs : List Vr) : Rs := tu98 (vI vs 0) (vI vs 1) (vI vs 2) (vI vs 3) (vS vs 4)
theorem tpw98 : tp98 = tw98 := funext fun vs => by unfold tp98 tw98; rw [show tu98 = t98 from U_eq _, te98]
def th98 := fun xs => gOf zr98 zo98 (argsT A98 tp98 xs)
def tu62 := U t62
theorem te62 : ta62 tu98 = t62 := (by rw [show tu98 = t98 from U_eq _] : ta62 tu98 = ta62 t98).trans rfl
def tw62 (vs : List Vr) : Rs := ta62 tu98 (vL vs 0)
def tp62 (vs : List Vr) : Rs := tu62 (vL vs 0)
theorem tpw62 : tp62 = tw62 := funext fun vs => by unfold tp62 tw62; rw [show tu62 = t62 from U_eq _, te62]
def th62 := fun xs => gOf zr62 zo62 (argsT A62 tp62 xs)
def tu24 := U t24
theorem te24 : ta24 tu60 tu61 tu62 = t24 := (by rw [show tu60 = t60 from U_eq _, show tu61 = t61 from U_eq _, show tu62 = t62 from U_eq _] : ta24 tu60 tu61 tu62 = ta24 t60 t61 t62).trans rfl
def tw24 (vs : List Vr) : Rs := ta24 tu60 tu61 tu62 (vI vs 0) (vL vs 1) (vI vs 2) (vL vs 3) (vL vs 4)
def tp24 (vs : List Vr) : Rs := tu24 (vI vs 0) (vL vs 1) (vI vs 2) (vL vs 3) (vL vs 4)
theorem tpw24 : tp24 = tw24 := funext fun vs => by unfold tp24 tw24; rw [show tu24 = t24 from U_eq _, te24]
def th24 := fun xs => gOf zr24 zo24 (argsT A24 tp24 xs)
def tu28 := U t28
theorem te28 : ta28 tu24 = t28 := (by rw [show tu24 = t24 from U_eq _] : ta28 tu24 = ta28 t24).trans rfl
def tw28 (vs : List Vr) : Rs := ta28 tu24 (vL vs 0)
def tp28 (vs : List Vr) : Rs := tu28 (vL vs 0)
theorem tpw28 : tp28 = tw28 := funext fun vs => by unfold tp28 tw28; rw [show tu28 = t28 from U_eq _, te28]
def th28 := fun xs => gOf zr28 zo28 (argsT A28 tp28 xs)
def tu57 := U t57
theorem te57 : t57 = t57 := rfl
def tw57 (vs : List Vr) : Rs := t57 (vI vs 0) (vI vs 1) (vI vs 2)
def tp57 (vs : List Vr) : Rs := tu57 (vI vs 0) (vI vs 1) (vI vs 2)
theorem tpw57 : tp57 = tw57 := funext fun vs => by unfold tp57 tw57; rw [show tu57 = t57 from U_eq _, te57]
def th57 := fun xs => gOf zr57 zo57 (argsT A57 tp57 xs)
def tu139 := U t139
theorem te139 : t139 = t139 := rfl
def tw139 (vs : List Vr) : Rs := t139 (vI vs 0)
def tp139 (vs : List Vr) : Rs := tu139 (vI vs 0)
theorem tpw139 : tp139 = tw139 := funext fun vs => by unfold tp139 tw139; rw [show tu139 = t139 from U_eq _, te139]
def th139 := fun xs => gOf zr139 zo139 (argsT A139 tp139 xs)
def tu124 := U t124
theorem te124 : ta124 tu57 tu139 = t124 := (by rw [show tu57 = t57 from U_eq _, show tu139 = t139 from U_eq _] : ta124 tu57 tu139 = ta124 t57 t139).trans rfl
def tw124 (vs : List Vr) : Rs := ta124 tu57 tu139 (vS vs 0)
def tp124 (vs : List Vr) : Rs := tu124 (vS vs 0)
theorem tpw124 : tp124 = tw124 := funext fun vs => by unfold tp124 tw124; rw [show tu124 = t124 from U_eq _, te124]
def th124 := fun xs => gOf zr124 zo124 (argsT A124 tp124 xs)
def tu125 := U t125
theorem te125 : ta125 tu57 tu139 = t125 := (by rw [show tu57 = t57 from U_eq _, show tu139 = t139 from U_eq _] : ta125 tu57 tu139 = ta125 t57 t139).trans rfl
def tw125 (vs : List Vr) : Rs := ta125 tu57 tu139 (vS vs 0)
def tp125 (vs : List Vr) : Rs := tu125 (vS vs 0)
theorem tpw125 : tp125 = tw125 := funext fun vs => by unfold tp125 tw125; rw [show tu125 = t125 from U_eq _, te125]
def th125 := fun xs => gOf zr125 zo125 (argsT A125 tp125 xs)
def tu126 := U t126
theorem te126 : t126 = t126 := rfl
def tw126 (vs : List Vr) : Rs := t126 (vI vs 0) (vL vs 1) (vI vs 2)
def tp126 (vs : List Vr) : Rs := tu126 (vI vs 0) (vL vs 1) (vI vs 2)
theorem tpw126 : tp126 = tw126 := funext fun vs => by unfold tp126 tw126; rw [show tu126 = t126 from U_eq _, te126]
def th126 := fun xs => gOf zr126 zo126 (argsT A126 tp126 xs)
def tu91 := U t91
theorem te91 : ta91 tu57 tu124 tu125 tu126 = t91 := (by rw [show tu57 = t57 from U_eq _, show tu124 = t124 from U_eq _, show tu125 = t125 from U_eq _, show tu126 = t126 from U_eq _] : ta91 tu57 tu124 tu125 tu126 = ta91 t57 t124 t125 t126).trans rfl
def tw91 (vs : List Vr) : Rs := ta91 tu57 tu124 tu125 tu126 (vI vs 0) (vL vs 1) (vI vs 2) (vI vs 3) (vI vs 4) (vI vs 5) (vI vs 6) (vS vs 7) (vL vs 8) (vI vs 9) (vI vs 10)
def tp91 (vs : List Vr) : Rs := tu91 (vI vs 0) (vL vs 1) (vI vs 2) (vI vs 3) (vI vs 4) (vI vs 5) (vI vs 6) (vS vs 7) (vL vs 8) (vI vs 9) (vI vs 10)
theorem tpw91 : tp91 = tw91 := funext fun vs => by unfold tp91 tw91; rw [show tu91 = t91 from U_eq _, te91]
def th91 := fun xs => gOf zr91 zo91 (argsT A91 tp91 xs)
def tu92 := U t92
theorem te92 : ta92 tu126 = t92 := (by rw [show tu126 = t126 from U_eq _] : ta92 tu126 = ta92 t126).trans rfl
def tw92 (vs : List Vr) : Rs := ta92 tu126 (vI vs 0) (vL vs 1) (vI vs 2)
def tp92 (vs : List Vr) : Rs := tu92 (vI vs 0) (vL vs 1) (vI vs 2)
theorem tpw92 : tp92 = tw92 := funext fun vs => by unfold tp92 tw92; rw [show tu92 = t92 from U_eq _, te92]
def th92 := fun xs => gOf zr92 zo92 (argsT A92 tp92 xs)
def tu93 := U t93
theorem te93 : t93 = t93 := rfl
def tw93 (vs : List Vr) : Rs := t93 (vI vs 0) (vL vs 1) (vI vs 2)
def tp93 (vs : List Vr) : Rs := tu93 (vI vs 0) (vL vs 1) (vI vs 2)
theorem tpw93 : tp93 = tw93 := funext fun vs => by unfold tp93 tw93; rw [show tu93 = t93 from U_eq _, te93]
def th93 := fun xs => gOf zr93 zo93 (argsT A93 tp93 xs)
def tu94 := U t94
theorem te94 : t94 = t94 := rfl
def tw94 (vs : List Vr) : Rs := t94 (vI vs 0) (vL vs 1)
def tp94 (vs : List Vr) : Rs := tu94 (vI vs 0) (vL vs 1)
theorem tpw94 : tp94 = tw94 := funext fun vs => by unfold tp94 tw94; rw [show tu94 = t94 from U_eq _, te94]
def th94 := fun xs => gOf zr94 zo94 (argsT A94 tp94 xs)
def tu127 := U t127
theorem te127 : ta127 tu92 = t127 := (by rw [show tu92 = t92 from U_eq _] : ta127 tu92 = ta127 t92).trans rfl
def tw127 (vs : List Vr) : Rs := ta127 tu92 (vI vs 0) (vL vs 1) (vI vs 2)
def tp127 (vs : List Vr) : Rs := tu127 (vI vs 0) (vL vs 1) (vI vs 2)
theorem tpw127 : tp127 = tw127 := funext fun vs => by unfold tp127 tw127; rw [show tu127 = t127 from U_eq _, te127]
def th127 := fun xs => gOf zr127 zo127 (argsT A127 tp127 xs)
def tu95 := U t95
theorem te95 : ta95 tu127 = t95 := (by rw [show tu127 = t127 from U_eq _] : ta95 tu127 = ta95 t127).trans rfl
def tw95 (vs : List Vr) : Rs := ta95 tu127 (vI vs 0) (vL vs 1)
def tp95 (vs : List Vr) : Rs := tu95 (vI vs 0) (vL vs 1)
theorem tpw95 : tp95 = tw95 := funext fun vs => by unfold tp95 tw95; rw [show tu95 = t95 from U_eq _, te95]
def th95 := fun xs => gOf zr95 zo95 (argsT A95 tp95 xs)
def tu56 := U t56
theorem te56 : ta56 tu57 tu91 tu92 tu93 tu94 tu95 = t56 := (by rw [show tu57 = t57 from U_eq _, show tu91 = t91 from U_eq _, show tu92 = t92 from U_eq _, show tu93 = t93 from U_eq _, show tu94 = t94 from U_eq _, show tu95 = t95 from U_eq _] : ta56 tu57 tu91 tu92 tu93 tu94 tu95 = ta56 t57 t91 t92 t93 t94 t95).trans rfl
def tw56 (vs : List Vr) : Rs := ta56 tu57 tu91 tu92 tu93 tu94 tu95 (vI vs 0) (vL vs 1)
def tp56 (vs : List Vr) : Rs := tu56 (vI vs 0) (vL vs 1)
theorem tpw56 : tp56 = tw56 := funext fun vs => by unfold tp56 tw56; rw [show tu56 = t56 from U_eq _, te56]
def th56 := fun xs => gOf zr56 zo56 (argsT A56 tp56 xs)
def tu58 := U t58
theorem te58 : ta58 tu57 = t58 := (by rw [show tu57 = t57 from U_eq _] : ta58 tu57 = ta58 t57).trans rfl
def tw58 (vs : List Vr) : Rs := ta58 tu57 (vL vs 0)
def tp58 (vs : List Vr) : Rs := tu58 (vL vs 0)
theorem tpw58 : tp58 = tw58 := funext fun vs => by unfold tp58 tw58; rw [show tu58 = t58 from U_eq _, te58]
def th58 := fun xs => gOf zr58 zo58 (argsT A58 tp58 xs)
def tu59 := U t59
theorem te59 : ta59 tu57 = t59 := (by rw [show tu57 = t57 from U_eq _] : ta59 tu57 = ta59 t57).trans rfl
def tw59 (vs : List Vr) : Rs := ta59 tu57 (vI vs 0) (vS vs 1)
def tp59 (vs : List Vr) : Rs := tu59 (vI vs 0) (vS vs 1)
theorem tpw59 : tp59 = tw59 := funext fun vs => by unfold tp59 tw59; rw [show tu59 = t59 from U_eq _, te59]
def th59 := fun xs => gOf zr59 zo59 (argsT A59 tp59 xs)
def tu23 := U t23
theorem te23 : ta23 tu56 tu57 tu58 tu59 = t23 := (by rw [show tu56 = t56 from U_eq _, show tu57 = t57 from U_eq _, show tu58 = t58 from U_eq _, show tu59 = t59 from U_eq _] : ta23 tu56 tu57 tu58 tu59 = ta23 t56 t57 t58 t59).trans rfl
def tw23 (vs : List Vr) : Rs := ta23 tu56 tu57 tu58 tu59 (vI vs 0) (vL vs 1) (vI vs 2) (vL vs 3) (vL vs 4)
def tp23 (vs : List Vr) : Rs := tu23 (vI vs 0) (vL vs 1) (vI vs 2) (vL vs 3) (vL vs 4)
theorem tpw23 : tp23 = tw23 := funext fun vs => by unfold tp23 tw23; rw [show tu23 = t23 from U_eq _, te23]
def th23 := fun xs => gOf zr23 zo23 (argsT A23 tp23 xs)
def tu27 := U t27
theorem te27 : ta27 tu23 = t27 := (by rw [show tu23 = t23 from U_eq _] : ta27 tu23 = ta27 t23).trans rfl
def tw27 (vs : List Vr) : Rs := ta27 tu23 (vL vs 0)
def tp27 (vs : List Vr) : Rs := tu27 (vL vs 0)
theorem tpw27 : tp27 = tw27 := funext fun vs => by unfold tp27 tw27; rw [show tu27 = t27 from U_eq _, te27]
def th27 := fun xs => gOf zr27 zo27 (argsT A27 tp27 xs)
def tu69 := U t69
theorem te69 : ta69 tu57 = t69 := (by rw [show tu57 = t57 from U_eq _] : ta69 tu57 = ta69 t57).trans rfl
def tw69 (vs : List Vr) : Rs := ta69 tu57 (vI vs 0)
def tp69 (vs : List Vr) : Rs := tu69 (vI vs 0)
theorem tpw69 : tp69 = tw69 := funext fun vs => by unfold tp69 tw69; rw [show tu69 = t69 from U_eq _, te69]
def th69 := fun xs => gOf zr69 zo69 (argsT A69 tp69 xs)
def tu67 := U t67
theorem te67 : ta67 tu69 = t67 := (by rw [show tu69 = t69 from U_eq _] : ta67 tu69 = ta67 t69).trans rfl
def tw67 (vs : List Vr) : Rs := ta67 tu69 (vS vs 0)
def tp67 (vs : List Vr) : Rs := tu67 (vS vs 0)
theorem tpw67 : tp67 = tw67 := funext fun vs => by unfold tp67 tw67; rw [show tu67 = t67 from U_eq _, te67]
def th67 := fun xs => gOf zr67 zo67 (argsT A67 tp67 xs)
def tu68 := U t68
theorem te68 : ta68 tu56 tu67 tu69 = t68 := (by rw [show tu56 = t56 from U_eq _, show tu67 = t67 from U_eq _, show tu69 = t69 from U_eq _] : ta68 tu56 tu67 tu69 = ta68 t56 t67 t69).trans rfl
def tw68 (vs : List Vr) : Rs := ta68 tu56 tu67 tu69 (vI vs 0) (vL vs 1)
def tp68 (vs : List Vr) : Rs := tu68 (vI vs 0) (vL vs 1)
theorem tpw68 : tp68 = tw68 := funext fun vs => by unfold tp68 tw68; rw [show tu68 = t68 from U_eq _, te68]
def th68 := fun xs => gOf zr68 zo68 (argsT A68 tp68 xs)
def tu70 := U t70
theorem te70 : ta70 tu59 tu69 = t70 := (by rw [show tu59 = t59 from U_eq _, show tu69 = t69 from U_eq _] : ta70 tu59 tu69 = ta70 t59 t69).trans rfl
def tw70 (vs : List Vr) : Rs := ta70 tu59 tu69 (vI vs 0) (vS vs 1)
def tp70 (vs : List Vr) : Rs := tu70 (vI vs 0) (vS vs 1)
theorem tpw70 : tp70 = tw70 := funext fun vs => by unfold tp70 tw70; rw [show tu70 = t70 from U_eq _, te70]
def th70 := fun xs => gOf zr70 zo70 (argsT A70 tp70 xs)
def tu30 := U t30
theorem te30 : ta30 tu23 tu67 tu68 tu69 tu70 = t30 := (by rw [show tu23 = t23 from U_eq _, show tu67 = t67 from U_eq _, show tu68 = t68 from U_eq _, show tu69 = t69 from U_eq _, show tu70 = t70 from U_eq _] : ta30 tu23 tu67 tu68 tu69 tu70 = ta30 t23 t67 t68 t69 t70).trans rfl
def tw30 (vs : List Vr) : Rs := ta30 tu23 tu67 tu68 tu69 tu70 (vI vs 0) (vL vs 1) (vI vs 2) (vL vs 3) (vL vs 4)
def tp30 (vs : List Vr) : Rs := tu30 (vI vs 0) (vL vs 1) (vI vs 2) (vL vs 3) (vL vs 4)
theorem tpw30 : tp30 = tw30 := funext fun vs => by unfold tp30 tw30; rw [show tu30 = t30 from U_eq _, te30]
def th30 := fun xs => gOf zr30 zo30 (argsT A30 tp30 xs)
def tu32 := U t32
theorem te32 : ta32 tu27 tu30 tu67 = t32 := (by rw [show tu27 = t27 from U_eq _, show tu30 = t30 from U_eq _, show tu67 = t67 from U_eq _] : ta32 tu27 tu30 tu67 = ta32 t27 t30 t67).trans rfl
def tw32 (vs : List Vr) : Rs := ta32 tu27 tu30 tu67 (vL vs 0)
def tp32 (vs : List Vr) : Rs := tu32 (vL vs 0)
theorem tpw32 : tp32 = tw32 := funext fun vs => by unfold tp32 tw32; rw [show tu32 = t32 from U_eq _, te32]
def th32 := fun xs => gOf zr32 zo32 (argsT A32 tp32 xs)
def tu63 := U t63
theorem te63 : t63 = t63 := rfl
def tw63 (vs : List Vr) : Rs := t63 (vI vs 0) (vI vs 1) (vI vs 2)
def tp63 (vs : List Vr) : Rs := tu63 (vI vs 0) (vI vs 1) (vI vs 2)
theorem tpw63 : tp63 = tw63 := funext fun vs => by unfold tp63 tw63; rw [show tu63 = t63 from U_eq _, te63]
def th63 := fun xs => gOf zr63 zo63 (argsT A63 tp63 xs)
def tu64 := U t64
theorem te64 : ta64 tu63 = t64 := (by rw [show tu63 = t63 from U_eq _] : ta64 tu63 = ta64 t63).trans rfl
def tw64 (vs : List Vr) : Rs := ta64 tu63 (vI vs 0) (vS vs 1)
def tp64 (vs : List Vr) : Rs := tu64 (vI vs 0) (vS vs 1)
theorem tpw64 : tp64 = tw64 := funext fun vs => by unfold tp64 tw64; rw [show tu64 = t64 from U_eq _, te64]
def th64 := fun xs => gOf zr64 zo64 (argsT A64 tp64 xs)
def tu65 := U t65
theorem te65 : ta65 tu63 = t65 := (by rw [show tu63 = t63 from U_eq _] : ta65 tu63 = ta65 t63).trans rfl
def tw65 (vs : List Vr) : Rs := ta65 tu63 (vL vs 0)
def tp65 (vs : List Vr) : Rs := tu65 (vL vs 0)
theorem tpw65 : tp65 = tw65 := funext fun vs => by unfold tp65 tw65; rw [show tu65 = t65 from U_eq _, te65]
def th65 := fun xs => gOf zr65 zo65 (argsT A65 tp65 xs)
def tu141 := U t141
theorem te141 : t141 = t141 := rfl
def tw141 (vs : List Vr) : Rs := t141 (vI vs 0)
def tp141 (vs : List Vr) : Rs := tu141 (vI vs 0)
theorem tpw141 : tp141 = tw141 := funext fun vs => by unfold tp141 tw141; rw [show tu141 = t141 from U_eq _, te141]
def th141 := fun xs => gOf zr141 zo141 (argsT A141 tp141 xs)
def tu130 := U t130
theorem te130 : ta130 tu63 tu141 = t130 := (by rw [show tu63 = t63 from U_eq _, show tu141 = t141 from U_eq _] : ta130 tu63 tu141 = ta130 t63 t141).trans rfl
def tw130 (vs : List Vr) : Rs := ta130 tu63 tu141 (vS vs 0)
def tp130 (vs : List Vr) : Rs := tu130 (vS vs 0)
theorem tpw130 : tp130 = tw130 := funext fun vs => by unfold tp130 tw130; rw [show tu130 = t130 from U_eq _, te130]
def th130 := fun xs => gOf zr130 zo130 (argsT A130 tp130 xs)
def tu142 := U t142
theorem te142 : ta142 tu63 tu141 = t142 := (by rw [show tu63 = t63 from U_eq _, show tu141 = t141 from U_eq _] : ta142 tu63 tu141 = ta142 t63 t141).trans rfl
def tw142 (vs : List Vr) : Rs := ta142 tu63 tu141 (vS vs 0)
def tp142 (vs : List Vr) : Rs := tu142 (vS vs 0)
theorem tpw142 : tp142 = tw142 := funext fun vs => by unfold tp142 tw142; rw [show tu142 = t142 from U_eq _, te142]
def th142 := fun xs => gOf zr142 zo142 (argsT A142 tp142 xs)
def tu132 := U t132
theorem te132 : t132 = t132 := rfl
def tw132 (vs : List Vr) : Rs := t132 (vI vs 0) (vL vs 1) (vI vs 2)
def tp132 (vs : List Vr) : Rs := tu132 (vI vs 0) (vL vs 1) (vI vs 2)
theorem tpw132 : tp132 = tw132 := funext fun vs => by unfold tp132 tw132; rw [show tu132 = t132 from U_eq _, te132]
def th132 := fun xs => gOf zr132 zo132 (argsT A132 tp132 xs)
def tu131 := U t131
theorem te131 : ta131 tu132 tu142 = t131 := (by rw [show tu132 = t132 from U_eq _, show tu142 = t142 from U_eq _] : ta131 tu132 tu142 = ta131 t132 t142).trans rfl
def tw131 (vs : List Vr) : Rs := ta131 tu132 tu142 (vI vs 0) (vL vs 1) (vI vs 2) (vI vs 3) (vI vs 4) (vI vs 5) (vI vs 6) (vS vs 7) (vL vs 8) (vI vs 9) (vI vs 10)
def tp131 (vs : List Vr) : Rs := tu131 (vI vs 0) (vL vs 1) (vI vs 2) (vI vs 3) (vI vs 4) (vI vs 5) (vI vs 6) (vS vs 7) (vL vs 8) (vI vs 9) (vI vs 10)
theorem tpw131 : tp131 = tw131 := funext fun vs => by unfold tp131 tw131; rw [show tu131 = t131 from U_eq _, te131]
def th131 := fun xs => gOf zr131 zo131 (argsT A131 tp131 xs)
def tu99 := U t99
theorem te99 : ta99 tu63 tu130 tu131 = t99 := (by rw [show tu63 = t63 from U_eq _, show tu130 = t130 from U_eq _, show tu131 = t131 from U_eq _] : ta99 tu63 tu130 tu131 = ta99 t63 t130 t131).trans rfl
def tw99 (vs : List Vr) : Rs := ta99 tu63 tu130 tu131 (vI vs 0) (vL vs 1) (vI vs 2) (vI vs 3) (vI vs 4) (vI vs 5) (vI vs 6) (vS vs 7) (vL vs 8) (vI vs 9) (vI vs 10)
def tp99 (vs : List Vr) : Rs := tu99 (vI vs 0) (vL vs 1) (vI vs 2) (vI vs 3) (vI vs 4) (vI vs 5) (vI vs 6) (vS vs 7) (vL vs 8) (vI vs 9) (vI vs 10)
theorem tpw99 : tp99 = tw99 := funext fun vs => by unfold tp99 tw99; rw [show tu99 = t99 from U_eq _, te99]
def th99 := fun xs => gOf zr99 zo99 (argsT A99 tp99 xs)
def tu133 := U t133
theorem te133 : t133 = t133 := rfl
def tw133 (vs : List Vr) : Rs := t133 (vL vs 0) (vI vs 1)
def tp133 (vs : List Vr) : Rs := tu133 (vL vs 0) (vI vs 1)
theorem tpw133 : tp133 = tw133 := funext fun vs => by unfold tp133 tw133; rw [show tu133 = t133 from U_eq _, te133]
def th133 := fun xs => gOf zr133 zo133 (argsT A133 tp133 xs)
def tu101 := U t101
theorem te101 : ta101 tu133 = t101 := (by rw [show tu133 = t133 from U_eq _] : ta101 tu133 = ta101 t133).trans rfl
def tw101 (vs : List Vr) : Rs := ta101 tu133 (vL vs 0) (vI vs 1)
def tp101 (vs : List Vr) : Rs := tu101 (vL vs 0) (vI vs 1)
theorem tpw101 : tp101 = tw101 := funext fun vs => by unfold tp101 tw101; rw [show tu101 = t101 from U_eq _, te101]
def th101 := fun xs => gOf zr101 zo101 (argsT A101 tp101 xs)
def tu100 := U t100
theorem te100 : ta100 tu101 tu132 = t100 := (by rw [show tu101 = t101 from U_eq _, show tu132 = t132 from U_eq _] : ta100 tu101 tu132 = ta100 t101 t132).trans rfl
def tw100 (vs : List Vr) : Rs := ta100 tu101 tu132 (vI vs 0) (vL vs 1) (vI vs 2)
def tp100 (vs : List Vr) : Rs := tu100 (vI vs 0) (vL vs 1) (vI vs 2)
theorem tpw100 : tp100 = tw100 := funext fun vs => by unfold tp100 tw100; rw [show tu100 = t100 from U_eq _, te100]
def th100 := fun xs => gOf zr100 zo100 (argsT A100 tp100 xs)
def tu102 := U t102
theorem te102 : t102 = t102 := rfl
def tw102 (vs : List Vr) : Rs := t102 (vI vs 0) (vL vs 1) (vI vs 2)
def tp102 (vs : List Vr) : Rs := tu102 (vI vs 0) (vL vs 1) (vI vs 2)
theorem tpw102 : tp102 = tw102 := funext fun vs => by unfold tp102 tw102; rw [show tu102 = t102 from U_eq _, te102]
def th102 := fun xs => gOf zr102 zo102 (argsT A102 tp102 xs)
def tu103 := U t103
theorem te103 : t103 = t103 := rfl
def tw103 (vs : List Vr) : Rs := t103 (vI vs 0) (vL vs 1)
def tp103 (vs : List Vr) : Rs := tu103 (vI vs 0) (vL vs 1)
theorem tpw103 : tp103 = tw103 := funext fun vs => by unfold tp103 tw103; rw [show tu103 = t103 from U_eq _, te103]
def th103 := fun xs => gOf zr103 zo103 (argsT A103 tp103 xs)
def tu135 := U t135
theorem te135 : ta135 tu100 tu132 = t135 := (by rw [show tu100 = t100 from U_eq _, show tu132 = t132 from U_eq _] : ta135 tu100 tu132 = ta135 t100 t132).trans rfl
def tw135 (vs : List Vr) : Rs := ta135 tu100 tu132 (vI vs 0) (vL vs 1) (vI vs 2)
def tp135 (vs : List Vr) : Rs := tu135 (vI vs 0) (vL vs 1) (vI vs 2)
theorem tpw135 : tp135 = tw135 := funext fun vs => by unfold tp135 tw135; rw [show tu135 = t135 from U_eq _, te135]
def th135 := fun xs => gOf zr135 zo135 (argsT A135 tp135 xs)
def tu105 := U t105
theorem te105 : ta105 tu135 = t105 := (by rw [show tu135 = t135 from U_eq _] : ta105 tu135 = ta105 t135).trans rfl
def tw105 (vs : List Vr) : Rs := ta105 tu135 (vI vs 0) (vL vs 1) (vI vs 2) (vI vs 3) (vI vs 4) (vI vs 5) (vI vs 6) (vS vs 7) (vL vs 8) (vI vs 9) (vI vs 10)
def tp105 (vs : List Vr) : Rs := tu105 (vI vs 0) (vL vs 1) (vI vs 2) (vI vs 3) (vI vs 4) (vI vs 5) (vI vs 6) (vS vs 7) (vL vs 8) (vI vs 9) (vI vs 10)
theorem tpw105 : tp105 = tw105 := funext fun vs => by unfold tp105 tw105; rw [show tu105 = t105 from U_eq _, te105]
def th105 := fun xs => gOf zr105 zo105 (argsT A105 tp105 xs)
def tu134 := U t134
theorem te134 : ta134 tu105 = t134 := (by rw [show tu105 = t105 from U_eq _] : ta134 tu105 = ta134 t105).trans rfl
def tw134 (vs : List Vr) : Rs := ta134 tu105 (vL vs 0) (vI vs 1) (vL vs 2)
def tp134 (vs : List Vr) : Rs := tu134 (vL vs 0) (vI vs 1) (vL vs 2)
theorem tpw134 : tp134 = tw134 := funext fun vs => by unfold tp134 tw134; rw [show tu134 = t134 from U_eq _, te134]
def th134 := fun xs => gOf zr134 zo134 (argsT A134 tp134 xs)
def tu104 := U t104
theorem te104 : ta104 tu134 = t104 := (by rw [show tu134 = t134 from U_eq _] : ta104 tu134 = ta104 t134).trans rfl
def tw104 (vs : List Vr) : Rs := ta104 tu134 (vL vs 0) (vI vs 1) (vL vs 2)
def tp104 (vs : List Vr) : Rs := tu104 (vL vs 0) (vI vs 1) (vL vs 2)
theorem tpw104 : tp104 = tw104 := funext fun vs => by unfold tp104 tw104; rw [show tu104 = t104 from U_eq _, te104]
def th104 := fun xs => gOf zr104 zo104 (argsT A104 tp104 xs)
def tu66 := U t66
theorem te66 : ta66 tu63 tu99 tu100 tu101 tu102 tu103 tu104 = t66 := (by rw [show tu63 = t63 from U_eq _, show tu99 = t99 from U_eq _, show tu100 = t100 from U_eq _, show tu101 = t101 from U_eq _, show tu102 = t102 from U_eq _, show tu103 = t103 from U_eq _, show tu104 = t104 from U_eq _] : ta66 tu63 tu99 tu100 tu101 tu102 tu103 tu104 = ta66 t63 t99 t100 t101 t102 t103 t104).trans rfl
def tw66 (vs : List Vr) : Rs := ta66 tu63 tu99 tu100 tu101 tu102 tu103 tu104 (vI vs 0) (vL vs 1)
def tp66 (vs : List Vr) : Rs := tu66 (vI vs 0) (vL vs 1)
theorem tpw66 : tp66 = tw66 := funext fun vs => by unfold tp66 tw66; rw [show tu66 = t66 from U_eq _, te66]
def th66 := fun xs => gOf zr66 zo66 (argsT A66 tp66 xs)
def tu25 := U t25
theorem te25 : ta25 tu63 tu64 tu65 tu66 = t25 := (by rw [show tu63 = t63 from U_eq _, show tu64 = t64 from U_eq _, show tu65 = t65 from U_eq _, show tu66 = t66 from U_eq _] : ta25 tu63 tu64 tu65 tu66 = ta25 t63 t64 t65 t66).trans rfl
def tw25 (vs : List Vr) : Rs := ta25 tu63 tu64 tu65 tu66 (vI vs 0) (vL vs 1) (vI vs 2) (vL vs 3) (vL vs 4)
def tp25 (vs : List Vr) : Rs := tu25 (vI vs 0) (vL vs 1) (vI vs 2) (vL vs 3) (vL vs 4)
theorem tpw25 : tp25 = tw25 := funext fun vs => by unfold tp25 tw25; rw [show tu25 = t25 from U_eq _, te25]
def th25 := fun xs => gOf zr25 zo25 (argsT A25 tp25 xs)
def tu29 := U t29
theorem te29 : ta29 tu25 = t29 := (by rw [show tu25 = t25 from U_eq _] : ta29 tu25 = ta29 t25).trans rfl
def tw29 (vs : List Vr) : Rs := ta29 tu25 (vL vs 0)
def tp29 (vs : List Vr) : Rs := tu29 (vL vs 0)
theorem tpw29 : tp29 = tw29 := funext fun vs => by unfold tp29 tw29; rw [show tu29 = t29 from U_eq _, te29]
def th29 := fun xs => gOf zr29 zo29 (argsT A29 tp29 xs)
def tu109 := U t109
theorem te109 : ta109 tu63 = t109 := (by rw [show tu63 = t63 from U_eq _] : ta109 tu63 = ta109 t63).trans rfl
def tw109 (vs : List Vr) : Rs := ta109 tu63 (vI vs 0)
def tp109 (vs : List Vr) : Rs := tu109 (vI vs 0)
theorem tpw109 : tp109 = tw109 := funext fun vs => by unfold tp109 tw109; rw [show tu109 = t109 from U_eq _, te109]
def th109 := fun xs => gOf zr109 zo109 (argsT A109 tp109 xs)
def tu108 := U t108
theorem te108 : ta108 tu109 = t108 := (by rw [show tu109 = t109 from U_eq _] : ta108 tu109 = ta108 t109).trans rfl
def tw108 (vs : List Vr) : Rs := ta108 tu109 (vL vs 0)
def tp108 (vs : List Vr) : Rs := tu108 (vL vs 0)
theorem tpw108 : tp108 = tw108 := funext fun vs => by unfold tp108 tw108; rw [show tu108 = t108 from U_eq _, te108]
def th108 := fun xs => gOf zr108 zo108 (argsT A108 tp108 xs)
def tu106 := U t106
theorem te106 : ta106 tu109 = t106 := (by rw [show tu109 = t109 from U_eq _] : ta106 tu109 = ta106 t109).trans rfl
def tw106 (vs : List Vr) : Rs := ta106 tu109 (vS vs 0)
def tp106 (vs : List Vr) : Rs := tu106 (vS vs 0)
theorem tpw106 : tp106 = tw106 := funext fun vs => by unfold tp106 tw106; rw [show tu106 = t106 from U_eq _, te106]
def th106 := fun xs => gOf zr106 zo106 (argsT A106 tp106 xs)
def tu107 := U t107
theorem te107 : ta107 tu106 tu108 tu109 = t107 := (by rw [show tu106 = t106 from U_eq _, show tu108 = t108 from U_eq _, show tu109 = t109 from U_eq _] : ta107 tu106 tu108 tu109 = ta107 t106 t108 t109).trans rfl
def tw107 (vs : List Vr) : Rs := ta107 tu106 tu108 tu109 (vI vs 0) (vL vs 1)
def tp107 (vs : List Vr) : Rs := tu107 (vI vs 0) (vL vs 1)
theorem tpw107 : tp107 = tw107 := funext fun vs => by unfold tp107 tw107; rw [show tu107 = t107 from U_eq _, te107]
def th107 := fun xs => gOf zr107 zo107 (argsT A107 tp107 xs)
def tu110 := U t110
theorem te110 : ta110 tu64 tu109 = t110 := (by rw [show tu64 = t64 from U_eq _, show tu109 = t109 from U_eq _] : ta110 tu64 tu109 = ta110 t64 t109).trans rfl
def tw110 (vs : List Vr) : Rs := ta110 tu64 tu109 (vI vs 0) (vS vs 1)
def tp110 (vs : List Vr) : Rs := tu110 (vI vs 0) (vS vs 1)
theorem tpw110 : tp110 = tw110 := funext fun vs => by unfold tp110 tw110; rw [show tu110 = t110 from U_eq _, te110]
def th110 := fun xs => gOf zr110 zo110 (argsT A110 tp110 xs)
def tu71 := U t71
theorem te71 : ta71 tu106 tu107 tu108 tu109 tu110 = t71 := (by rw [show tu106 = t106 from U_eq _, show tu107 = t107 from U_eq _, show tu108 = t108 from U_eq _, show tu109 = t109 from U_eq _, show tu110 = t110 from U_eq _] : ta71 tu106 tu107 tu108 tu109 tu110 = ta71 t106 t107 t108 t109 t110).trans rfl
def tw71 (vs : List Vr) : Rs := ta71 tu106 tu107 tu108 tu109 tu110 (vI vs 0) (vL vs 1) (vI vs 2) (vL vs 3) (vL vs 4)
def tp71 (vs : List Vr) : Rs := tu71 (vI vs 0) (vL vs 1) (vI vs 2) (vL vs 3) (vL vs 4)
theorem tpw71 : tp71 = tw71 := funext fun vs => by unfold tp71 tw71; rw [show tu71 = t71 from U_eq _, te71]
def th71 := fun xs => gOf zr71 zo71 (argsT A71 tp71 xs)
def tu72 := U t72
theorem te72 : ta72 tu71 tu106 = t72 := (by rw [show tu71 = t71 from U_eq _, show tu106 = t106 from U_eq _] : ta72 tu71 tu106 = ta72 t71 t106).trans rfl
def tw72 (vs : List Vr) : Rs := ta72 tu71 tu106 (vL vs 0)
def tp72 (vs : List Vr) : Rs := tu72 (vL vs 0)
theorem tpw72 : tp72 = tw72 := funext fun vs => by unfold tp72 tw72; rw [show tu72 = t72 from U_eq _, te72]
def th72 := fun xs => gOf zr72 zo72 (argsT A72 tp72 xs)
def tu33 := U t33
theorem te33 : ta33 tu29 tu72 = t33 := (by rw [show tu29 = t29 from U_eq _, show tu72 = t72 from U_eq _] : ta33 tu29 tu72 = ta33 t29 t72).trans rfl
def tw33 (vs : List Vr) : Rs := ta33 tu29 tu72 (vL vs 0)
def tp33 (vs : List Vr) : Rs := tu33 (vL vs 0)
theorem tpw33 : tp33 = tw33 := funext fun vs => by unfold tp33 tw33; rw [show tu33 = t33 from U_eq _, te33]
def th33 := fun xs => gOf zr33 zo33 (argsT A33 tp33 xs)
def tu143 := U t143
theorem te143 : t143 = t143 := rfl
def tw143 (vs : List Vr) : Rs := t143 (vS vs 0) (vI vs 1) (vS vs 2) (vI vs 3)
def tp143 (vs : List Vr) : Rs := tu143 (vS vs 0) (vI vs 1) (vS vs 2) (vI vs 3)
theorem tpw143 : tp143 = tw143 := funext fun vs => by unfold tp143 tw143; rw [show tu143 = t143 from U_eq _, te143]
def th143 := fun xs => gOf zr143 zo143 (argsT A143 tp143 xs)
def tu137 := U t137
theorem te137 : ta137 tu143 = t137 := (by rw [show tu143 = t143 from U_eq _] : ta137 tu143 = ta137 t143).trans rfl
def tw137 (vs : List Vr) : Rs := ta137 tu143 (vL vs 0) (vL vs 1)
def tp137 (vs : List Vr) : Rs := tu137 (vL vs 0) (vL vs 1)
theorem tpw137 : tp137 = tw137 := funext fun vs => by unfold tp137 tw137; rw [show tu137 = t137 from U_eq _, te137]
def th137 := fun xs => gOf zr137 zo137 (argsT A137 tp137 xs)
def tu120 := U t120
theorem te120 : ta120 tu137 = t120 := (by rw [show tu137 = t137 from U_eq _] : ta120 tu137 = ta120 t137).trans rfl
def tw120 (vs : List Vr) : Rs := ta120 tu137 (vI vs 0) (vI vs 1) (vI vs 2) (vI vs 3) (vI vs 4) (vS vs 5) (vL vs 6) (vI vs 7) (vI vs 8) (vI vs 9) (vI vs 10) (vI vs 11) (vI vs 12) (vI vs 13) (vS vs 14) (vL vs 15) (vI vs 16) (vI vs 17)
def tp120 (vs : List Vr) : Rs := tu120 (vI vs 0) (vI vs 1) (vI vs 2) (vI vs 3) (vI vs 4) (vS vs 5) (vL vs 6) (vI vs 7) (vI vs 8) (vI vs 9) (vI vs 10) (vI vs 11) (vI vs 12) (vI vs 13) (vS vs 14) (vL vs 15) (vI vs 16) (vI vs 17)
theorem tpw120 : tp120 = tw120 := funext fun vs => by unfold tp120 tw120; rw [show tu120 = t120 from U_eq _, te120]
def th120 := fun xs => gOf zr120 zo120 (argsT A120 tp120 xs)
def tu83 := U t83
theorem te83 : ta83 tu120 = t83 := (by rw [show tu120 = t120 from U_eq _] : ta83 tu120 = ta83 t120).trans rfl
def tw83 (vs : List Vr) : Rs := ta83 tu120 (vL vs 0) (vL vs 1)
def tp83 (vs : List Vr) : Rs := tu83 (vL vs 0) (vL vs 1)
theorem tpw83 : tp83 = tw83 := funext fun vs => by unfold tp83 tw83; rw [show tu83 = t83 from U_eq _, te83]
def th83 := fun xs => gOf zr83 zo83 (argsT A83 tp83 xs)
def tu42 := U t42
theorem te42 : ta42 tu83 = t42 := (by rw [show tu83 = t83 from U_eq _] : ta42 tu83 = ta42 t83).trans rfl
def tw42 (vs : List Vr) : Rs := ta42 tu83 (vI vs 0) (vL vs 1) (vI vs 2) (vL vs 3)
def tp42 (vs : List Vr) : Rs := tu42 (vI vs 0) (vL vs 1) (vI vs 2) (vL vs 3)
theorem tpw42 : tp42 = tw42 := funext fun vs => by unfold tp42 tw42; rw [show tu42 = t42 from U_eq _, te42]
def th42 := fun xs => gOf zr42 zo42 (argsT A42 tp42 xs)
def tu84 := U t84
theorem te84 : t84 = t84 := rfl
def tw84 (vs : List Vr) : Rs := t84 (vI vs 0) (vI vs 1) (vI vs 2) (vI vs 3) (vI vs 4) (vI vs 5) (vI vs 6) (vI vs 7) (vI vs 8) (vI vs 9)
def tp84 (vs : List Vr) : Rs := tu84 (vI vs 0) (vI vs 1) (vI vs 2) (vI vs 3) (vI vs 4) (vI vs 5) (vI vs 6) (vI vs 7) (vI vs 8) (vI vs 9)
theorem tpw84 : tp84 = tw84 := funext fun vs => by unfold tp84 tw84; rw [show tu84 = t84 from U_eq _, te84]
def th84 := fun xs => gOf zr84 zo84 (argsT A84 tp84 xs)
def tu43 := U t43
theorem te43 : ta43 tu84 = t43 := (by rw [show tu84 = t84 from U_eq _] : ta43 tu84 = ta43 t84).trans rfl
def tw43 (vs : List Vr) : Rs := ta43 tu84 (vL vs 0) (vL vs 1)
def tp43 (vs : List Vr) : Rs := tu43 (vL vs 0) (vL vs 1)
theorem tpw43 : tp43 = tw43 := funext fun vs => by unfold tp43 tw43; rw [show tu43 = t43 from U_eq _, te43]
def th43 := fun xs => gOf zr43 zo43 (argsT A43 tp43 xs)
def tu121 := U t121
theorem te121 : t121 = t121 := rfl
def tw121 (vs : List Vr) : Rs := t121 (vI vs 0) (vS vs 1) (vI vs 2) (vS vs 3)
def tp121 (vs : List Vr) : Rs := tu121 (vI vs 0) (vS vs 1) (vI vs 2) (vS vs 3)
theorem tpw121 : tp121 = tw121 := funext fun vs => by unfold tp121 tw121; rw [show tu121 = t121 from U_eq _, te121]
def th121 := fun xs => gOf zr121 zo121 (argsT A121 tp121 xs)
def tu85 := U t85
theorem te85 : ta85 tu121 = t85 := (by rw [show tu121 = t121 from U_eq _] : ta85 tu121 = ta85 t121).trans rfl
def tw85 (vs : List Vr) : Rs := ta85 tu121 (vI vs 0) (vI vs 1) (vI vs 2) (vI vs 3) (vS vs 4) (vI vs 5) (vI vs 6) (vI vs 7) (vI vs 8) (vS vs 9)
def tp85 (vs : List Vr) : Rs := tu85 (vI vs 0) (vI vs 1) (vI vs 2) (vI vs 3) (vS vs 4) (vI vs 5) (vI vs 6) (vI vs 7) (vI vs 8) (vS vs 9)
theorem tpw85 : tp85 = tw85 := funext fun vs => by unfold tp85 tw85; rw [show tu85 = t85 from U_eq _, te85]
def th85 := fun xs => gOf zr85 zo85 (argsT A85 tp85 xs)
def tu44 := U t44
theorem te44 : ta44 tu85 = t44 := (by rw [show tu85 = t85 from U_eq _] : ta44 tu85 = ta44 t85).trans rfl
def tw44 (vs : List Vr) : Rs := ta44 tu85 (vL vs 0) (vL vs 1)
def tp44 (vs : List Vr) : Rs := tu44 (vL vs 0) (vL vs 1)
theorem tpw44 : tp44 = tw44 := funext fun vs => by unfold tp44 tw44; rw [show tu44 = t44 from U_eq _, te44]
def th44 := fun xs => gOf zr44 zo44 (argsT A44 tp44 xs)
def tu14 := U t14
theorem te14 : ta14 tu42 tu43 tu44 = t14 := (by rw [show tu42 = t42 from U_eq _, show tu43 = t43 from U_eq _, show tu44 = t44 from U_eq _] : ta14 tu42 tu43 tu44 = ta14 t42 t43 t44).trans rfl
def tw14 (vs : List Vr) : Rs := ta14 tu42 tu43 tu44 (vI vs 0) (vL vs 1) (vI vs 2) (vL vs 3) (vL vs 4) (vI vs 5) (vL vs 6) (vI vs 7) (vL vs 8) (vL vs 9)
def tp14 (vs : List Vr) : Rs := tu14 (vI vs 0) (vL vs 1) (vI vs 2) (vL vs 3) (vL vs 4) (vI vs 5) (vL vs 6) (vI vs 7) (vL vs 8) (vL vs 9)
theorem tpw14 : tp14 = tw14 := funext fun vs => by unfold tp14 tw14; rw [show tu14 = t14 from U_eq _, te14]
def th14 := fun xs => gOf zr14 zo14 (argsT A14 tp14 xs)
def tu19 := U t19
theorem te19 : ta19 tu14 = t19 := (by rw [show tu14 = t14 from U_eq _] : ta19 tu14 = ta19 t14).trans rfl
def tw19 (vs : List Vr) : Rs := ta19 tu14 (vL vs 0) (vL vs 1)
def tp19 (vs : List Vr) : Rs := tu19 (vL vs 0) (vL vs 1)
theorem tpw19 : tp19 = tw19 := funext fun vs => by unfold tp19 tw19; rw [show tu19 = t19 from U_eq _, te19]
def th19 := fun xs => gOf zr19 zo19 (argsT A19 tp19 xs)
def tu8 := U t8
theorem te8 : ta8 tu19 tu26 tu28 tu32 tu33 = t8 := (by rw [show tu19 = t19 from U_eq _, show tu26 = t26 from U_eq _, show tu28 = t28 from U_eq _, show tu32 = t32 from U_eq _, show tu33 = t33 from U_eq _] : ta8 tu19 tu26 tu28 tu32 tu33 = ta8 t19 t26 t28 t32 t33).trans rfl
def tw8 (vs : List Vr) : Rs := ta8 tu19 tu26 tu28 tu32 tu33 (vL vs 0)
def tp8 (vs : List Vr) : Rs := tu8 (vL vs 0)
theorem tpw8 : tp8 = tw8 := funext fun vs => by unfold tp8 tw8; rw [show tu8 = t8 from U_eq _, te8]
def th8 := fun xs => gOf zr8 zo8 (argsT A8 tp8 xs)
def sg144 : Sig := ⟨[.bor, .bor], .sc [.one (.i .i64 0)], [0, 1, 2, 4, 11], []⟩
def sg138 : Sig := ⟨[.bor, .bor], .sc [.one (.i .i64 0)], [0, 1, 4, 5, 11, 15, 25], []⟩
def sg122 : Sig := ⟨[.bor, .bor], .sc [.one (.i .i64 0)], [0, 1, 2, 4, 11, 17], []⟩
def sg89 : Sig := ⟨[.bor, .bor], .sc [.one (.i .i64 0)], [0, 1, 4, 5, 11, 15, 25], []⟩
def sg53 : Sig := ⟨[.bor, .bor], .sc [.one (.i .i64 0)], [0, 1, 2, 4, 10], []⟩
def sg54 : Sig := ⟨[.bor, .bor], .sc [.one (.i .i64 0)], [0, 1, 4, 10], []⟩
def sg123 : Sig := ⟨[.bor, .bor], .sc [.one (.i .i64 0)], [0, 1, 2, 4, 11], []⟩
def sg90 : Sig := ⟨[.bor, .bor], .sc [.one (.i .i64 0)], [0, 1, 2, 4, 10], []⟩
def sg55 : Sig := ⟨[.bor, .bor], .sc [.one (.i .i64 0)], [0, 1, 4, 5, 11, 15, 25], []⟩
def sg22 : Sig := ⟨[.bor, .bor], .sc [.one (.i .i64 0)], [0, 1, 2, 4, 10, 16, 22], []⟩
def sg26 : Sig := ⟨[.bor, .bor], .sc [.one (.i .i64 0)], [0, 1, 4, 5, 11, 15, 25], []⟩
def sg145 : Sig := ⟨[.bor], .sc [.agg [.s ⟨#[]⟩, .i .i64 0]], [0, 1, 2, 3], []⟩
def sg140 : Sig := ⟨[.bor], .fresh [[some (129, 2)]], [0, 2, 3, 4, 11], []⟩
def sg128 : Sig := ⟨[.bor], .fresh [[none, none, none, none, none, none, some (129, 2), none, none]], [0, 1, 2, 3], []⟩
def sg96 : Sig := ⟨[.bor], .fresh [[some (64, 9)]], [0, 2, 3, 4, 11], []⟩
def sg60 : Sig := ⟨[.bor], .fresh [[none, some (64, 9)]], [0, 1, 2, 3], []⟩
def sg97 : Sig := ⟨[.bor], .sc [.agg [.i .i64 0, .i .i64 0, .i .i64 0, .i .i64 0, .i .i64 0]], [0, 1, 2, 3], []⟩
def sg61 : Sig := ⟨[.bor], .fresh [[some (90, 5)]], [0, 2, 3, 4, 11], []⟩
def sg129 : Sig := ⟨[.bor], .sc [.agg [.i .i64 0, .s ⟨#[]⟩]], [0, 1, 2, 3], []⟩
def sg98 : Sig := ⟨[.bor], .sc [.agg [.i .i64 0, .i .i64 0, .i .i64 0, .i .i64 0, .s ⟨#[]⟩]], [0, 1, 2, 3], []⟩
def sg62 : Sig := ⟨[.bor], .fresh [[some (81, 5)]], [0, 2, 3, 4, 11], []⟩
def sg24 : Sig := ⟨[.bor], .fresh [[none, some (64, 9), none, some (90, 5), some (81, 5)]], [0, 1, 2, 3], []⟩
def sg28 : Sig := ⟨[.bor], .fresh [[some (28, 5)]], [0, 2, 3, 4, 11], []⟩
def sg57 : Sig := ⟨[.bor, .bor, .bor], .sc [.one (.b false)], [0, 1, 2, 6], []⟩
def sg139 : Sig := ⟨[.bor], .sc [.one (.b false)], [0, 2], []⟩
def sg124 : Sig := ⟨[.bor], .sc [.one (.b false)], [0, 2, 3, 7, 11, 24], []⟩
def sg125 : Sig := ⟨[.bor], .sc [.one (.b false)], [0, 2, 3, 15, 19, 26], []⟩
def sg126 : Sig := ⟨[.bor, .bor], .sc [.one (.i .i64 0)], [0, 1, 2, 4, 5, 10, 20], []⟩
def sg91 : Sig := ⟨[.bor, .bor], .sc [.one (.b false)], [0, 1, 2, 3, 4, 5, 6, 7, 23, 39, 40, 49, 62, 84, 89, 128], [(16, [(0, 0, []), (1, 0, []), (2, 0, []), (3, 0, []), (4, 0, []), (5, 0, []), (6, 0, []), (7, 0, []), (8, 0, []), (9, 0, []), (10, 0, []), (11, 0, []), (12, 0, []), (13, 0, []), (14, 0, []), (15, 0, []), (16, 0, []), (17, 0, []), (18, 0, []), (19, 0, []), (20, 0, []), (21, 0, []), (22, 0, []), (23, 0, []), (24, 0, []), (25, 0, []), (26, 0, []), (27, 0, []), (28, 0, []), (29, 0, []), (30, 0, []), (31, 0, [])])]⟩
def sg92 : Sig := ⟨[.bor, .bor], .fresh [[some (4, 1)]], [0, 1, 2, 4, 5, 6, 7, 8, 9, 10, 11, 24, 33, 40, 47, 56, 72], [(17, [(0, 0, []), (1, 0, []), (2, 0, []), (3, 0, []), (4, 0, []), (5, 0, []), (6, 0, []), (7, 0, []), (8, 0, []), (9, 0, []), (10, 0, []), (11, 0, []), (12, 0, [])])]⟩
def sg93 : Sig := ⟨[.bor, .bor], .sc [.one (.i .i64 0)], [0, 1, 2, 4, 5, 6, 7, 12, 23, 37], []⟩
def sg94 : Sig := ⟨[.bor], .sc [.one (.i .i64 0)], [0, 1, 2, 3, 4, 9], []⟩
def sg127 : Sig := ⟨[.bor, .bor], .sc [.one (.i .i64 0), .one (.i .i64 0)], [0, 1, 2, 4, 5, 6, 7, 8, 9, 16, 22], []⟩
def sg95 : Sig := ⟨[.bor], .sc [.one (.b false)], [0, 1, 2, 3, 4, 5, 6, 11, 31, 58], []⟩
def sg56 : Sig := ⟨[.bor], .sc [.one (.b false)], [0, 1, 2, 3, 4, 5, 6, 33, 38, 74, 81, 108], [(7, [(0, 0, []), (1, 0, []), (2, 0, []), (3, 0, []), (4, 0, []), (5, 0, []), (6, 0, []), (7, 0, []), (8, 0, []), (9, 0, []), (10, 0, []), (11, 0, []), (12, 0, []), (13, 0, []), (14, 0, []), (15, 0, []), (16, 0, []), (17, 0, []), (18, 0, []), (19, 0, []), (20, 0, []), (21, 0, []), (22, 0, []), (23, 0, []), (24, 0, []), (25, 0, []), (26, 0, []), (27, 0, []), (28, 0, [])]), (13, [(0, 0, []), (1, 0, []), (2, 0, []), (3, 0, []), (4, 0, []), (5, 0, []), (6, 0, []), (7, 0, []), (8, 0, []), (9, 0, []), (10, 0, []), (11, 0, []), (12, 0, []), (13, 0, []), (14, 0, []), (15, 0, []), (16, 0, []), (17, 0, []), (18, 0, []), (19, 0, []), (20, 0, []), (21, 0, []), (22, 0, []), (23, 0, []), (24, 0, [])])]⟩
def sg58 : Sig := ⟨[.bor], .sc [.one (.b false)], [0, 2, 3, 4, 7, 11, 60], [(7, [(0, 0, []), (1, 0, []), (2, 0, []), (3, 0, []), (4, 0, []), (5, 0, []), (6, 0, []), (7, 0, []), (8, 0, []), (9, 0, []), (10, 0, []), (11, 0, []), (12, 0, []), (13, 0, []), (14, 0, []), (15, 0, []), (16, 0, []), (17, 0, []), (18, 0, []), (19, 0, []), (20, 0, []), (21, 0, []), (22, 0, []), (23, 0, []), (24, 0, []), (25, 0, []), (26, 0, []), (27, 0, []), (28, 0, []), (29, 0, []), (30, 0, []), (31, 0, []), (32, 0, []), (33, 0, []), (34, 0, []), (35, 0, []), (36, 0, []), (37, 0, []), (38, 0, []), (39, 0, []), (40, 0, []), (41, 0, []), (42, 0, [])])]⟩
def sg59 : Sig := ⟨[.bor], .sc [.one (.b false)], [0, 1, 2], []⟩
def sg23 : Sig := ⟨[.bor], .sc [.one (.b false)], [0, 1, 2, 3, 4, 26, 31, 76], [(7, [(0, 0, []), (1, 0, []), (2, 0, []), (3, 0, []), (4, 0, []), (5, 0, []), (6, 0, []), (7, 0, []), (8, 0, []), (9, 0, []), (10, 0, []), (11, 0, []), (12, 0, []), (13, 0, []), (14, 0, []), (15, 0, []), (16, 0, []), (17, 0, []), (18, 0, []), (19, 0, []), (20, 0, []), (21, 0, []), (22, 0, []), (23, 0, []), (24, 0, []), (25, 0, []), (26, 0, []), (27, 0, []), (28, 0, []), (29, 0, []), (30, 0, []), (31, 0, []), (32, 0, []), (33, 0, []), (34, 0, []), (35, 0, []), (36, 0, []), (37, 0, [])])]⟩
def sg27 : Sig := ⟨[.bor], .sc [.one (.b false)], [0, 2, 3, 6, 10, 18], []⟩
def sg69 : Sig := ⟨[.bor], .sc [.one (.s ⟨#[]⟩)], [0, 2, 3, 6, 9], []⟩
def sg67 : Sig := ⟨[.bor], .sc [.one (.s ⟨#[]⟩)], [0, 2], []⟩
def sg68 : Sig := ⟨[.bor], .sc [.one (.s ⟨#[]⟩)], [0, 1, 2, 3, 4, 5, 6, 9, 22, 72], [(3, [(0, 0, []), (1, 0, []), (2, 0, []), (3, 0, []), (4, 0, []), (5, 0, []), (6, 0, []), (7, 0, []), (8, 0, [])]), (8, [(0, 0, []), (1, 0, []), (2, 0, []), (3, 0, []), (4, 0, []), (5, 0, []), (6, 0, []), (7, 0, []), (8, 0, []), (9, 0, []), (10, 0, []), (11, 0, []), (12, 0, []), (13, 0, []), (14, 0, []), (15, 0, []), (16, 0, []), (17, 0, []), (18, 0, []), (19, 0, []), (20, 0, []), (21, 0, []), (22, 0, []), (23, 0, []), (24, 0, []), (25, 0, []), (26, 0, []), (27, 0, []), (28, 0, []), (29, 0, []), (30, 0, []), (31, 0, []), (32, 0, []), (33, 0, []), (34, 0, []), (35, 0, []), (36, 0, []), (37, 0, []), (38, 1, [])]), (12, [(0, 0, []), (1, 0, []), (2, 0, []), (3, 0, []), (4, 0, []), (5, 0, []), (6, 0, []), (7, 0, []), (8, 0, []), (9, 0, []), (10, 0, []), (11, 0, []), (12, 0, []), (13, 0, []), (14, 0, []), (15, 0, []), (16, 0, []), (17, 1, [])])]⟩
def sg70 : Sig := ⟨[.bor], .sc [.one (.s ⟨#[]⟩)], [0, 1, 2, 5], [(3, [(0, 0, []), (1, 0, []), (2, 0, []), (3, 0, []), (4, 0, []), (5, 0, []), (6, 0, [])])]⟩
def sg30 : Sig := ⟨[.bor], .sc [.one (.s ⟨#[]⟩)], [0, 1, 2, 3, 4, 5, 6, 7, 10, 28, 67], [(3, [(0, 0, []), (1, 0, []), (2, 0, []), (3, 0, []), (4, 0, []), (5, 0, []), (6, 0, []), (7, 0, []), (8, 0, []), (9, 0, []), (10, 0, []), (11, 0, []), (12, 0, []), (13, 0, [])]), (8, [(0, 0, []), (1, 0, []), (2, 0, []), (3, 0, []), (4, 0, []), (5, 0, []), (6, 0, []), (7, 0, []), (8, 0, []), (9, 0, []), (10, 0, []), (11, 0, []), (12, 0, []), (13, 0, []), (14, 0, []), (15, 0, []), (16, 0, []), (17, 0, []), (18, 0, []), (19, 0, []), (20, 0, []), (21, 1, [])]), (14, [(0, 0, []), (1, 0, []), (2, 0, []), (3, 0, []), (4, 0, []), (5, 0, []), (6, 0, []), (7, 0, []), (8, 0, []), (9, 0, []), (10, 0, []), (11, 0, []), (12, 0, []), (13, 0, []), (14, 0, []), (15, 0, []), (16, 0, []), (17, 0, []), (18, 1, [])])]⟩
def sg32 : Sig := ⟨[.bor], .sc [.one (.s ⟨#[]⟩)], [0, 2, 3, 4, 7, 11], []⟩
def sg63 : Sig := ⟨[.bor, .bor, .bor], .sc [.one (.b false)], [0, 1, 2, 6], []⟩
def sg64 : Sig := ⟨[.bor], .sc [.one (.b false)], [0, 1, 2], []⟩
def sg65 : Sig := ⟨[.bor], .sc [.one (.b false)], [0, 2, 3, 4, 5, 6, 7, 8, 54], [(4, [(0, 0, []), (1, 0, []), (2, 0, []), (3, 0, []), (4, 0, []), (5, 0, []), (6, 0, []), (7, 0, []), (8, 0, []), (9, 0, []), (10, 0, []), (11, 0, []), (12, 0, []), (13, 0, []), (14, 0, []), (15, 0, []), (16, 0, []), (17, 0, []), (18, 0, []), (19, 0, []), (20, 0, []), (21, 0, []), (22, 0, []), (23, 0, []), (24, 0, []), (25, 0, []), (26, 0, []), (27, 0, []), (28, 0, []), (29, 0, []), (30, 0, []), (31, 0, []), (32, 0, []), (33, 0, []), (34, 0, []), (35, 0, []), (36, 0, []), (37, 0, []), (38, 0, []), (39, 0, []), (40, 0, []), (41, 0, []), (42, 0, [])])]⟩
def sg141 : Sig := ⟨[.bor], .sc [.one (.b false)], [0, 2], []⟩
def sg130 : Sig := ⟨[.bor], .sc [.one (.b false)], [0, 2, 3, 5, 6, 7, 19], []⟩
def sg142 : Sig := ⟨[.bor], .sc [.one (.b false)], [0, 2, 3, 5, 6, 7, 13], []⟩
def sg132 : Sig := ⟨[.rptr 2, .bor], .ep [.i .i64 0, .i .i64 0, .i .i64 0, .i .i64 0, .i .i64 0, .s ⟨#[]⟩, .l [], .i .i64 0, .i .i64 0], [0, 1, 4, 5, 10, 11, 12, 23], []⟩
def sg131 : Sig := ⟨[.rptr 2, .bor], .sc [.one (.b false)], [0, 1, 3, 4, 5, 6, 8, 9, 10, 11, 46], [(4, [(0, 0, []), (1, 0, []), (2, 0, []), (3, 0, []), (4, 0, []), (5, 0, []), (6, 0, []), (7, 0, []), (8, 0, []), (9, 0, []), (10, 0, []), (11, 0, []), (12, 0, []), (13, 0, []), (14, 0, []), (15, 0, []), (16, 0, []), (17, 0, []), (18, 0, []), (19, 0, []), (20, 0, []), (21, 0, []), (22, 0, []), (23, 0, []), (24, 0, []), (25, 0, []), (26, 0, []), (27, 0, []), (28, 0, []), (29, 0, []), (30, 0, []), (31, 0, [])])]⟩
def sg99 : Sig := ⟨[.rptr 2, .bor], .sc [.one (.b false)], [0, 1, 3, 4, 20, 39, 41, 42, 48, 58], []⟩
def sg133 : Sig := ⟨[.bor, .bor], .sc [.one (.i .i64 0)], [0, 1, 4, 5, 7, 8, 9, 16], []⟩
def sg101 : Sig := ⟨[.bor, .bor], .sc [.one (.b false)], [0, 1, 4], []⟩
def sg100 : Sig := ⟨[.rptr 2, .bor], .fresh [[some (3, 1)]], [0, 1, 4, 5, 6, 7, 8, 10, 17, 27, 31, 32, 33, 34, 41], [(1000013, [(2880, 0, []), (3200, 0, [])])]⟩
def sg102 : Sig := ⟨[.rptr 2, .bor], .sc [.one (.i .i64 0)], [0, 1, 4, 5, 7, 9, 13, 14, 15, 16, 20, 21, 22, 23, 29], []⟩
def sg103 : Sig := ⟨[.rptr 2], .sc [.one (.i .i64 0)], [0, 2, 3, 5, 9, 10, 11, 12], []⟩
def sg135 : Sig := ⟨[.rptr 2, .bor], .sc [.one (.i .i64 0), .one (.i .i64 0)], [0, 1, 4, 5, 6, 7, 9, 10, 14, 15, 16, 17, 24], []⟩
def sg105 : Sig := ⟨[.rptr 2, .bor], .sc [.one (.b false)], [0, 1, 3, 4, 5, 6], []⟩
def sg134 : Sig := ⟨[.bor, .fnp 105 2], .sc [.one (.i .i64 0)], [0, 1, 4, 5, 7, 8, 9, 16], []⟩
def sg104 : Sig := ⟨[.bor, .fnp 105 2], .sc [.one (.b false)], [0, 1, 4], []⟩
def sg66 : Sig := ⟨[.bor], .sc [.one (.b false)], [0, 1, 2, 3, 4, 5, 7, 34, 36, 37, 38, 39, 70, 75, 76, 77, 78, 96], [(6, [(0, 0, []), (1, 0, []), (2, 0, []), (3, 0, []), (4, 0, []), (5, 0, []), (6, 0, []), (7, 0, []), (8, 0, []), (9, 0, []), (10, 0, []), (11, 0, []), (12, 0, []), (13, 0, []), (14, 0, []), (15, 0, []), (16, 0, []), (17, 0, []), (18, 0, []), (19, 0, []), (20, 0, []), (21, 0, []), (22, 0, []), (23, 0, []), (24, 0, []), (25, 0, []), (26, 0, []), (27, 0, [])])]⟩
def sg25 : Sig := ⟨[.bor], .sc [.one (.b false)], [0, 1, 2, 3, 4, 6, 7, 8, 9, 50], [(4, [(0, 0, []), (1, 0, []), (2, 0, []), (3, 0, []), (4, 0, []), (5, 0, []), (6, 0, []), (7, 0, []), (8, 0, []), (9, 0, []), (10, 0, []), (11, 0, []), (12, 0, []), (13, 0, []), (14, 0, []), (15, 0, []), (16, 0, []), (17, 0, []), (18, 0, []), (19, 0, []), (20, 0, []), (21, 0, []), (22, 0, []), (23, 0, []), (24, 0, []), (25, 0, []), (26, 0, []), (27, 0, []), (28, 0, []), (29, 0, []), (30, 0, []), (31, 0, []), (32, 0, []), (33, 0, []), (34, 0, []), (35, 0, []), (36, 0, []), (37, 0, [])])]⟩
def sg29 : Sig := ⟨[.bor], .sc [.one (.b false)], [0, 2, 4, 5, 6, 7, 8, 13], []⟩
def sg109 : Sig := ⟨[.bor], .sc [.one (.s ⟨#[]⟩)], [0, 2, 3, 6, 9], []⟩
def sg108 : Sig := ⟨[.bor], .sc [.one (.s ⟨#[]⟩)], [0, 2, 3, 5, 6, 7, 8, 9], []⟩
def sg106 : Sig := ⟨[.bor], .sc [.one (.s ⟨#[]⟩)], [0, 2], []⟩
def sg107 : Sig := ⟨[.bor], .sc [.one (.s ⟨#[]⟩)], [0, 1, 2, 3, 5, 7, 16, 17, 18, 19, 50, 51, 52, 53], [(5, [(0, 0, []), (1, 0, []), (2, 0, []), (3, 0, []), (4, 0, []), (5, 0, []), (6, 0, []), (7, 0, []), (8, 0, []), (9, 0, []), (10, 0, []), (11, 0, []), (12, 0, []), (13, 0, []), (14, 0, []), (18, 0, []), (19, 0, []), (22, 0, []), (23, 0, []), (24, 0, []), (15, 1, [0, 18, 19, 22, 23, 24]), (16, 0, []), (17, 0, []), (20, 0, []), (21, 0, []), (25, 0, []), (26, 0, []), (27, 1, [])]), (9, [(0, 0, []), (1, 0, []), (2, 0, []), (3, 0, []), (4, 0, []), (5, 0, []), (6, 0, []), (7, 0, []), (8, 0, []), (9, 1, [])])]⟩
def sg110 : Sig := ⟨[.bor], .sc [.one (.s ⟨#[]⟩)], [0, 1, 2, 5], [(3, [(0, 0, []), (1, 0, []), (2, 0, []), (3, 0, []), (4, 0, []), (5, 0, []), (6, 0, [])])]⟩
def sg71 : Sig := ⟨[.bor], .sc [.one (.s ⟨#[]⟩)], [0, 1, 2, 3, 5, 7, 21, 22, 23, 24, 49, 50, 51, 52], [(1, [(0, 0, []), (1, 0, []), (2, 0, []), (3, 0, []), (4, 0, []), (5, 0, []), (6, 0, []), (7, 0, []), (8, 0, []), (9, 1, [0, 1, 2, 3]), (10, 0, []), (11, 0, []), (12, 0, [])]), (11, [(0, 0, []), (1, 0, []), (2, 0, []), (3, 0, []), (4, 0, []), (5, 0, []), (6, 0, []), (10, 0, []), (11, 0, []), (7, 1, [0, 10, 11]), (8, 0, []), (9, 0, []), (12, 0, []), (13, 0, []), (14, 0, []), (15, 1, [])])]⟩
def sg72 : Sig := ⟨[.bor], .sc [.one (.s ⟨#[]⟩)], [0, 2, 3, 5, 6, 7, 8, 9], []⟩
def sg33 : Sig := ⟨[.bor], .sc [.one (.s ⟨#[]⟩)], [0, 2, 5], []⟩
def sg143 : Sig := ⟨[.bor, .bor], .sc [.one (.b false)], [0, 1, 2, 3, 4, 9, 14], []⟩
def sg137 : Sig := ⟨[.bor, .bor], .sc [.one (.b false)], [0, 1, 4, 5, 10, 14, 26], [(6, [(0, 0, []), (1, 0, []), (2, 0, []), (3, 0, []), (4, 0, []), (5, 0, []), (6, 0, []), (7, 0, []), (8, 0, []), (9, 0, [])])]⟩
def sg120 : Sig := ⟨[.bor, .bor], .sc [.one (.b false)], [0, 1, 2, 3, 4, 9, 14, 19, 24, 29, 34, 40, 45, 50], []⟩
def sg83 : Sig := ⟨[.bor, .bor], .sc [.one (.b false)], [0, 1, 4, 5, 10, 14, 26], [(6, [(0, 0, []), (1, 0, []), (2, 0, []), (3, 0, []), (4, 0, []), (5, 0, []), (6, 0, []), (7, 0, []), (8, 0, []), (9, 0, [])])]⟩
def sg42 : Sig := ⟨[.bor, .bor], .sc [.one (.b false)], [0, 1, 2, 3, 4, 9, 15], []⟩
def sg84 : Sig := ⟨[.bor, .bor], .sc [.one (.b false)], [0, 1, 2, 3, 4, 9, 14, 19, 24, 29], []⟩
def sg43 : Sig := ⟨[.bor, .bor], .sc [.one (.b false)], [0, 1, 4, 5, 10, 14, 26], [(6, [(0, 0, []), (1, 0, []), (2, 0, []), (3, 0, []), (4, 0, []), (5, 0, []), (6, 0, []), (7, 0, []), (8, 0, []), (9, 0, [])])]⟩
def sg121 : Sig := ⟨[.bor, .bor], .sc [.one (.b false)], [0, 1, 2, 3, 4, 9, 14], []⟩
def sg85 : Sig := ⟨[.bor, .bor], .sc [.one (.b false)], [0, 1, 2, 3, 4, 9, 14, 19, 25], []⟩
def sg44 : Sig := ⟨[.bor, .bor], .sc [.one (.b false)], [0, 1, 4, 5, 10, 14, 26], [(6, [(0, 0, []), (1, 0, []), (2, 0, []), (3, 0, []), (4, 0, []), (5, 0, []), (6, 0, []), (7, 0, []), (8, 0, []), (9, 0, [])])]⟩
def sg14 : Sig := ⟨[.bor, .bor], .sc [.one (.b false)], [0, 1, 2, 3, 4, 10, 15, 21, 27], []⟩
def sg19 : Sig := ⟨[.bor, .bor], .sc [.one (.b false)], [0, 1, 4, 5, 10, 14, 26], [(6, [(0, 0, []), (1, 0, []), (2, 0, []), (3, 0, []), (4, 0, []), (5, 0, []), (6, 0, []), (7, 0, []), (8, 0, []), (9, 0, [])])]⟩
def sg8 : Sig := ⟨[.bor], .sc [.one (.b false)], [0, 2, 3, 4, 5, 6, 11, 21, 26], []⟩
def sig : Nat → Sig := lkF ⟨[], .fresh [], [], []⟩ [(144, sg144), (138, sg138), (122, sg122), (89, sg89), (53, sg53), (54, sg54), (123, sg123), (90, sg90), (55, sg55), (22, sg22), (26, sg26), (145, sg145), (140, sg140), (128, sg128), (96, sg96), (60, sg60), (97, sg97), (61, sg61), (129, sg129), (98, sg98), (62, sg62), (24, sg24), (28, sg28), (57, sg57), (139, sg139), (124, sg124), (125, sg125), (126, sg126), (91, sg91), (92, sg92), (93, sg93), (94, sg94), (127, sg127), (95, sg95), (56, sg56), (58, sg58), (59, sg59), (23, sg23), (27, sg27), (69, sg69), (67, sg67), (68, sg68), (70, sg70), (30, sg30), (32, sg32), (63, sg63), (64, sg64), (65, sg65), (141, sg141), (130, sg130), (142, sg142), (132, sg132), (131, sg131), (99, sg99), (133, sg133), (101, sg101), (100, sg100), (102, sg102), (103, sg103), (135, sg135), (105, sg105), (134, sg134), (104, sg104), (66, sg66), (25, sg25), (29, sg29), (109, sg109), (108, sg108), (106, sg106), (107, sg107), (110, sg110), (71, sg71), (72, sg72), (33, sg33), (143, sg143), (137, sg137), (120, sg120), (83, sg83), (42, sg42), (84, sg84), (43, sg43), (121, sg121), (85, sg85), (44, sg44), (14, sg14), (19, sg19), (8, sg8)]
def dep : Nat → Nat := lkF 0 [(144, 1), (138, 2), (122, 3), (89, 4), (53, 5), (54, 1), (123, 1), (90, 2), (55, 3), (22, 6), (26, 7), (145, 1), (140, 2), (128, 3), (96, 4), (60, 5), (97, 1), (61, 2), (129, 1), (98, 2), (62, 3), (24, 6), (28, 7), (57, 1), (139, 1), (124, 2), (125, 2), (126, 1), (91, 3), (92, 2), (93, 1), (94, 1), (127, 3), (95, 4), (56, 5), (58, 2), (59, 2), (23, 6), (27, 7), (69, 2), (67, 3), (68, 6), (70, 3), (30, 7), (32, 8), (63, 1), (64, 2), (65, 2), (141, 1), (130, 2), (142, 2), (132, 1), (131, 3), (99, 4), (133, 1), (101, 2), (100, 3), (102, 1), (103, 1), (135, 4), (105, 5), (134, 6), (104, 7), (66, 8), (25, 9), (29, 10), (109, 2), (108, 3), (106, 3), (107, 4), (110, 3), (71, 5), (72, 6), (33, 11), (143, 1), (137, 2), (120, 3), (83, 4), (42, 5), (84, 1), (43, 2), (121, 1), (85, 2), (44, 3), (14, 6), (19, 7), (8, 12)]
def gT : List (Nat × (List DV → Bool × List DV × List (List D))) := [(144, th144), (138, th138), (122, th122), (89, th89), (53, th53), (54, th54), (123, th123), (90, th90), (55, th55), (22, th22), (26, th26), (145, th145), (140, th140), (128, th128), (96, th96), (60, th60), (97, th97), (61, th61), (129, th129), (98, th98), (62, th62), (24, th24), (28, th28), (57, th57), (139, th139), (124, th124), (125, th125), (126, th126), (91, th91), (92, th92), (93, th93), (94, th94), (127, th127), (95, th95), (56, th56), (58, th58), (59, th59), (23, th23), (27, th27), (69, th69), (67, th67), (68, th68), (70, th70), (30, th30), (32, th32), (63, th63), (64, th64), (65, th65), (141, th141), (130, th130), (142, th142), (132, th132), (131, th131), (99, th99), (133, th133), (101, th101), (100, th100), (102, th102), (103, th103), (135, th135), (105, th105), (134, th134), (104, th104), (66, th66), (25, th25), (29, th29), (109, th109), (108, th108), (106, th106), (107, th107), (110, th110), (71, th71), (72, th72), (33, th33), (143, th143), (137, th137), (120, th120), (83, th83), (42, th42), (84, th84), (43, th43), (121, th121), (85, th85), (44, th44), (14, th14), (19, th19), (8, th8)]
def G : Nat → List DV → Bool × List DV × List (List D) := lkF (fun _ => (false, [], [])) gT
noncomputable def C144 : Ctx := ⟨Try.prog, sig, Gd G dep (dep 144), (sig 144).keep, (sig 144).ord⟩
noncomputable def c144 : Code := Try.f144.body.getD .skip
def ST144 : List (Nat × (St → Cont (List DV × List (List D)) → Rs)) := []
theorem r144 : ∀ vs, tw144 vs = bodyK C144 (lkS ST144) Try.f144 (sig 144) c144 (fillAs A144 0 vs) := fun vs => by kernel_rfl
theorem ok144 : OkS sig (Gd G dep (dep 144)) 144 th144 := fun xs q h => body_ok Try.func144 (c := c144) rfl A144 tw144 (sums_of (C := C144) (t := ST144) trivial) r144 (by rw [← tpw144]; exact opt_gOf h)
noncomputable def C138 : Ctx := ⟨Try.prog, sig, Gd G dep (dep 138), (sig 138).keep, (sig 138).ord⟩
noncomputable def c138 : Code := Try.f138.body.getD .skip
def T138o1 : TSt := ⟨[dL, dI, dI, dI, dB, .any, .any], []⟩
def X138o1e1 : TSt := ⟨[dL, dI, dI, dI, dB, dB, dB], []⟩
def X138o1e2 : TSt := ⟨[dL, dI, dI, dI, dB, dB, .any], []⟩
def L138o1 (m : Nat) (vs : List Vr) (K : Cont (List DV × List (List D))) : Rs := la138o1 tu144 (vL vs 0) (vI vs 2) (vB vs 4) (fun n22 n23 b24 b25 => K .ret (fillS X138o1e1 [.l (vL vs 0), .i (n22), .i ((-1 : Int)), .i (n23), .b (vB vs 4), .b (b24), .b (b25)])) (fun n26 n27 b28 v29 => K (.exit 0) (fillS X138o1e2 [.l (vL vs 0), .i (n26), .i (vI vs 2), .i (n27), .b (vB vs 4), .b (b28), .v (v29)])) m (vI vs 1) (vI vs 3) (vV vs 5) (vV vs 6)
def ST138 : List (Nat × (St → Cont (List DV × List (List D)) → Rs)) := [(1, sumT T138o1 (L138o1 KK))]
noncomputable def b138o1 : Code := match nodeAt c138 1 with | some (.loop a) => a | _ => .skip
theorem q138o1 : ∀ m vs K, L138o1 (m + 1) vs K = denK C138 (lkS ST138) b138o1 2 (fillS T138o1 vs) (loopK T138o1 (L138o1 m) K) := fun m vs K => by kernel_rfl
theorem o138o1 : SumOk C138 KK (sumT T138o1 (L138o1 KK)) (.loop b138o1) := loop_ok T138o1 L138o1 (sums_of (t := ST138) ⟨fun _ _ h => absurd h (by decide), trivial⟩) (fun _ _ => rfl) q138o1
theorem r138 : ∀ vs, tw138 vs = bodyK C138 (lkS ST138) Try.f138 (sig 138) c138 (fillAs A138 0 vs) := fun vs => by kernel_rfl
theorem ok138 : OkS sig (Gd G dep (dep 138)) 138 th138 := fun xs q h => body_ok Try.func138 (c := c138) rfl A138 tw138 (sums_of (C := C138) (t := ST138) ⟨sum_in (c' := .loop b138o1) (by kernel_rfl) (o138o1), trivial⟩) r138 (by rw [← tpw138]; exact opt_gOf h)
noncomputable def C122 : Ctx := ⟨Try.prog, sig, Gd G dep (dep 122), (sig 122).keep, (sig 122).ord⟩
noncomputable def c122 : Code := Try.f122.body.getD .skip
def ST122 : List (Nat × (St → Cont (List DV × List (List D)) → Rs)) := []
theorem r122 : ∀ vs, tw122 vs = bodyK C122 (lkS ST122) Try.f122 (sig 122) c122 (fillAs A122 0 vs) := fun vs => by kernel_rfl
theorem ok122 : OkS sig (Gd G dep (dep 122)) 122 th122 := fun xs q h => body_ok Try.func122 (c := c122) rfl A122 tw122 (sums_of (C := C122) (t := ST122) trivial) r122 (by rw [← tpw122]; exact opt_gOf h)
noncomputable def C89 : Ctx := ⟨Try.prog, sig, Gd G dep (dep 89), (sig 89).keep, (sig 89).ord⟩
noncomputable def c89 : Code := Try.f89.body.getD .skip
def T89o1 : TSt := ⟨[dL, dI, dI, dI, dB, .any, .any], []⟩
def X89o1e1 : TSt := ⟨[dL, dI, dI, dI, dB, dB, dB], []⟩
def X89o1e2 : TSt := ⟨[dL, dI, dI, dI, dB, dB, .any], []⟩
def L89o1 (m : Nat) (vs : List Vr) (K : Cont (List DV × List (List D))) : Rs := la89o1 tu122 (vL vs 0) (vI vs 2) (vB vs 4) (fun n22 n23 b24 b25 => K .ret (fillS X89o1e1 [.l (vL vs 0), .i (n22), .i ((-1 : Int)), .i (n23), .b (vB vs 4), .b (b24), .b (b25)])) (fun n26 n27 b28 v29 => K (.exit 0) (fillS X89o1e2 [.l (vL vs 0), .i (n26), .i (vI vs 2), .i (n27), .b (vB vs 4), .b (b28), .v (v29)])) m (vI vs 1) (vI vs 3) (vV vs 5) (vV vs 6)
def ST89 : List (Nat × (St → Cont (List DV × List (List D)) → Rs)) := [(1, sumT T89o1 (L89o1 KK))]
noncomputable def b89o1 : Code := match nodeAt c89 1 with | some (.loop a) => a | _ => .skip
theorem q89o1 : ∀ m vs K, L89o1 (m + 1) vs K = denK C89 (lkS ST89) b89o1 2 (fillS T89o1 vs) (loopK T89o1 (L89o1 m) K) := fun m vs K => by kernel_rfl
theorem o89o1 : SumOk C89 KK (sumT T89o1 (L89o1 KK)) (.loop b89o1) := loop_ok T89o1 L89o1 (sums_of (t := ST89) ⟨fun _ _ h => absurd h (by decide), trivial⟩) (fun _ _ => rfl) q89o1
theorem r89 : ∀ vs, tw89 vs = bodyK C89 (lkS ST89) Try.f89 (sig 89) c89 (fillAs A89 0 vs) := fun vs => by kernel_rfl
theorem ok89 : OkS sig (Gd G dep (dep 89)) 89 th89 := fun xs q h => body_ok Try.func89 (c := c89) rfl A89 tw89 (sums_of (C := C89) (t := ST89) ⟨sum_in (c' := .loop b89o1) (by kernel_rfl) (o89o1), trivial⟩) r89 (by rw [← tpw89]; exact opt_gOf h)
noncomputable def C53 : Ctx := ⟨Try.prog, sig, Gd G dep (dep 53), (sig 53).keep, (sig 53).ord⟩
noncomputable def c53 : Code := Try.f53.body.getD .skip
def ST53 : List (Nat × (St → Cont (List DV × List (List D)) → Rs)) := []
theorem r53 : ∀ vs, tw53 vs = bodyK C53 (lkS ST53) Try.f53 (sig 53) c53 (fillAs A53 0 vs) := fun vs => by kernel_rfl
theorem ok53 : OkS sig (Gd G dep (dep 53)) 53 th53 := fun xs q h => body_ok Try.func53 (c := c53) rfl A53 tw53 (sums_of (C := C53) (t := ST53) trivial) r53 (by rw [← tpw53]; exact opt_gOf h)
noncomputable def C54 : Ctx := ⟨Try.prog, sig, Gd G dep (dep 54), (sig 54).keep, (sig 54).ord⟩
noncomputable def c54 : Code := Try.f54.body.getD .skip
def ST54 : List (Nat × (St → Cont (List DV × List (List D)) → Rs)) := []
theorem r54 : ∀ vs, tw54 vs = bodyK C54 (lkS ST54) Try.f54 (sig 54) c54 (fillAs A54 0 vs) := fun vs => by kernel_rfl
theorem ok54 : OkS sig (Gd G dep (dep 54)) 54 th54 := fun xs q h => body_ok Try.func54 (c := c54) rfl A54 tw54 (sums_of (C := C54) (t := ST54) trivial) r54 (by rw [← tpw54]; exact opt_gOf h)
noncomputable def C123 : Ctx := ⟨Try.prog, sig, Gd G dep (dep 123), (sig 123).keep, (sig 123).ord⟩
noncomputable def c123 : Code := Try.f123.body.getD .skip
def ST123 : List (Nat × (St → Cont (List DV × List (List D)) → Rs)) := []
theorem r123 : ∀ vs, tw123 vs = bodyK C123 (lkS ST123) Try.f123 (sig 123) c123 (fillAs A123 0 vs) := fun vs => by kernel_rfl
theorem ok123 : OkS sig (Gd G dep (dep 123)) 123 th123 := fun xs q h => body_ok Try.func123 (c := c123) rfl A123 tw123 (sums_of (C := C123) (t := ST123) trivial) r123 (by rw [← tpw123]; exact opt_gOf h)
noncomputable def C90 : Ctx := ⟨Try.prog, sig, Gd G dep (dep 90), (sig 90).keep, (sig 90).ord⟩
noncomputable def c90 : Code := Try.f90.body.getD .skip
def ST90 : List (Nat × (St → Cont (List DV × List (List D)) → Rs)) := []
theorem r90 : ∀ vs, tw90 vs = bodyK C90 (lkS ST90) Try.f90 (sig 90) c90 (fillAs A90 0 vs) := fun vs => by kernel_rfl
theorem ok90 : OkS sig (Gd G dep (dep 90)) 90 th90 := fun xs q h => body_ok Try.func90 (c := c90) rfl A90 tw90 (sums_of (C := C90) (t := ST90) trivial) r90 (by rw [← tpw90]; exact opt_gOf h)
noncomputable def C55 : Ctx := ⟨Try.prog, sig, Gd G dep (dep 55), (sig 55).keep, (sig 55).ord⟩
noncomputable def c55 : Code := Try.f55.body.getD .skip
def T55o1 : TSt := ⟨[dL, dI, dI, dI, dB, .any, .any], []⟩
def X55o1e1 : TSt := ⟨[dL, dI, dI, dI, dB, dB, dB], []⟩
def X55o1e2 : TSt := ⟨[dL, dI, dI, dI, dB, dB, .any], []⟩
def L55o1 (m : Nat) (vs : List Vr) (K : Cont (List DV × List (List D))) : Rs := la55o1 tu90 (vL vs 0) (vI vs 2) (vB vs 4) (fun n22 n23 b24 b25 => K .ret (fillS X55o1e1 [.l (vL vs 0), .i (n22), .i ((-1 : Int)), .i (n23), .b (vB vs 4), .b (b24), .b (b25)])) (fun n26 n27 b28 v29 => K (.exit 0) (fillS X55o1e2 [.l (vL vs 0), .i (n26), .i (vI vs 2), .i (n27), .b (vB vs 4), .b (b28), .v (v29)])) m (vI vs 1) (vI vs 3) (vV vs 5) (vV vs 6)
def ST55 : List (Nat × (St → Cont (List DV × List (List D)) → Rs)) := [(1, sumT T55o1 (L55o1 KK))]
noncomputable def b55o1 : Code := match nodeAt c55 1 with | some (.loop a) => a | _ => .skip
theorem q55o1 : ∀ m vs K, L55o1 (m + 1) vs K = denK C55 (lkS ST55) b55o1 2 (fillS T55o1 vs) (loopK T55o1 (L55o1 m) K) := fun m vs K => by kernel_rfl
theorem o55o1 : SumOk C55 KK (sumT T55o1 (L55o1 KK)) (.loop b55o1) := loop_ok T55o1 L55o1 (sums_of (t := ST55) ⟨fun _ _ h => absurd h (by decide), trivial⟩) (fun _ _ => rfl) q55o1
theorem r55 : ∀ vs, tw55 vs = bodyK C55 (lkS ST55) Try.f55 (sig 55) c55 (fillAs A55 0 vs) := fun vs => by kernel_rfl
theorem ok55 : OkS sig (Gd G dep (dep 55)) 55 th55 := fun xs q h => body_ok Try.func55 (c := c55) rfl A55 tw55 (sums_of (C := C55) (t := ST55) ⟨sum_in (c' := .loop b55o1) (by kernel_rfl) (o55o1), trivial⟩) r55 (by rw [← tpw55]; exact opt_gOf h)
noncomputable def C22 : Ctx := ⟨Try.prog, sig, Gd G dep (dep 22), (sig 22).keep, (sig 22).ord⟩
noncomputable def c22 : Code := Try.f22.body.getD .skip
def ST22 : List (Nat × (St → Cont (List DV × List (List D)) → Rs)) := []
theorem r22 : ∀ vs, tw22 vs = bodyK C22 (lkS ST22) Try.f22 (sig 22) c22 (fillAs A22 0 vs) := fun vs => by kernel_rfl
theorem ok22 : OkS sig (Gd G dep (dep 22)) 22 th22 := fun xs q h => body_ok Try.func22 (c := c22) rfl A22 tw22 (sums_of (C := C22) (t := ST22) trivial) r22 (by rw [← tpw22]; exact opt_gOf h)
noncomputable def C26 : Ctx := ⟨Try.prog, sig, Gd G dep (dep 26), (sig 26).keep, (sig 26).ord⟩
noncomputable def c26 : Code := Try.f26.body.getD .skip
def T26o1 : TSt := ⟨[dL, dI, dI, dI, dB, .any, .any], []⟩
def X26o1e1 : TSt := ⟨[dL, dI, dI, dI, dB, dB, dB], []⟩
def X26o1e2 : TSt := ⟨[dL, dI, dI, dI, dB, dB, .any], []⟩
def L26o1 (m : Nat) (vs : List Vr) (K : Cont (List DV × List (List D))) : Rs := la26o1 tu22 (vL vs 0) (vI vs 2) (vB vs 4) (fun n22 n23 b24 b25 => K .ret (fillS X26o1e1 [.l (vL vs 0), .i (n22), .i ((-1 : Int)), .i (n23), .b (vB vs 4), .b (b24), .b (b25)])) (fun n26 n27 b28 v29 => K (.exit 0) (fillS X26o1e2 [.l (vL vs 0), .i (n26), .i (vI vs 2), .i (n27), .b (vB vs 4), .b (b28), .v (v29)])) m (vI vs 1) (vI vs 3) (vV vs 5) (vV vs 6)
def ST26 : List (Nat × (St → Cont (List DV × List (List D)) → Rs)) := [(1, sumT T26o1 (L26o1 KK))]
noncomputable def b26o1 : Code := match nodeAt c26 1 with | some (.loop a) => a | _ => .skip
theorem q26o1 : ∀ m vs K, L26o1 (m + 1) vs K = denK C26 (lkS ST26) b26o1 2 (fillS T26o1 vs) (loopK T26o1 (L26o1 m) K) := fun m vs K => by kernel_rfl
theorem o26o1 : SumOk C26 KK (sumT T26o1 (L26o1 KK)) (.loop b26o1) := loop_ok T26o1 L26o1 (sums_of (t := ST26) ⟨fun _ _ h => absurd h (by decide), trivial⟩) (fun _ _ => rfl) q26o1
theorem r26 : ∀ vs, tw26 vs = bodyK C26 (lkS ST26) Try.f26 (sig 26) c26 (fillAs A26 0 vs) := fun vs => by kernel_rfl
theorem ok26 : OkS sig (Gd G dep (dep 26)) 26 th26 := fun xs q h => body_ok Try.func26 (c := c26) rfl A26 tw26 (sums_of (C := C26) (t := ST26) ⟨sum_in (c' := .loop b26o1) (by kernel_rfl) (o26o1), trivial⟩) r26 (by rw [← tpw26]; exact opt_gOf h)
noncomputable def C145 : Ctx := ⟨Try.prog, sig, Gd G dep (dep 145), (sig 145).keep, (sig 145).ord⟩
noncomputable def c145 : Code := Try.f145.body.getD .skip
def ST145 : List (Nat × (St → Cont (List DV × List (List D)) → Rs)) := []
theorem r145 : ∀ vs, tw145 vs = bodyK C145 (lkS ST145) Try.f145 (sig 145) c145 (fillAs A145 0 vs) := fun vs => by kernel_rfl
theorem ok145 : OkS sig (Gd G dep (dep 145)) 145 th145 := fun xs q h => body_ok Try.func145 (c := c145) rfl A145 tw145 (sums_of (C := C145) (t := ST145) trivial) r145 (by rw [← tpw145]; exact opt_gOf h)
noncomputable def C140 : Ctx := ⟨Try.prog, sig, Gd G dep (dep 140), (sig 140).keep, (sig 140).ord⟩
noncomputable def c140 : Code := Try.f140.body.getD .skip
def T140o0 : TSt := ⟨[dL, .nils, .own 448, dI, .any], [(448, .row 129 2)]⟩
def X140o0e1 : TSt := ⟨[dL, .nils, .own 448, dI, dB], [(448, .row 129 2)]⟩
def L140o0 (m : Nat) (vs : List Vr) (K : Cont (List DV × List (List D))) : Rs := la140o0 tu145 (vL vs 0) (fun n13 b14 l15 => K (.exit 0) (fillS X140o0e1 [.l (vL vs 0), .i (n13), .b (b14), .l (l15)])) m (vI vs 1) (vV vs 2) (vL vs 3)
def ST140 : List (Nat × (St → Cont (List DV × List (List D)) → Rs)) := [(0, sumT T140o0 (L140o0 KK))]
noncomputable def b140o0 : Code := match nodeAt c140 0 with | some (.loop a) => a | _ => .skip
theorem q140o0 : ∀ m vs K, L140o0 (m + 1) vs K = denK C140 (lkS ST140) b140o0 1 (fillS T140o0 vs) (loopK T140o0 (L140o0 m) K) := fun m vs K => by kernel_rfl
theorem o140o0 : SumOk C140 KK (sumT T140o0 (L140o0 KK)) (.loop b140o0) := loop_ok T140o0 L140o0 (sums_of (t := ST140) ⟨fun _ _ h => absurd h (by decide), trivial⟩) (fun _ _ => rfl) q140o0
theorem r140 : ∀ vs, tw140 vs = bodyK C140 (lkS ST140) Try.f140 (sig 140) c140 (fillAs A140 0 vs) := fun vs => by kernel_rfl
theorem ok140 : OkS sig (Gd G dep (dep 140)) 140 th140 := fun xs q h => body_ok Try.func140 (c := c140) rfl A140 tw140 (sums_of (C := C140) (t := ST140) ⟨sum_in (c' := .loop b140o0) (by kernel_rfl) (o140o0), trivial⟩) r140 (by rw [← tpw140]; exact opt_gOf h)
noncomputable def C128 : Ctx := ⟨Try.prog, sig, Gd G dep (dep 128), (sig 128).keep, (sig 128).ord⟩
noncomputable def c128 : Code := Try.f128.body.getD .skip
def ST128 : List (Nat × (St → Cont (List DV × List (List D)) → Rs)) := []
theorem r128 : ∀ vs, tw128 vs = bodyK C128 (lkS ST128) Try.f128 (sig 128) c128 (fillAs A128 0 vs) := fun vs => by kernel_rfl
theorem ok128 : OkS sig (Gd G dep (dep 128)) 128 th128 := fun xs q h => body_ok Try.func128 (c := c128) rfl A128 tw128 (sums_of (C := C128) (t := ST128) trivial) r128 (by rw [← tpw128]; exact opt_gOf h)
noncomputable def C96 : Ctx := ⟨Try.prog, sig, Gd G dep (dep 96), (sig 96).keep, (sig 96).ord⟩
noncomputable def c96 : Code := Try.f96.body.getD .skip
def T96o0 : TSt := ⟨[dL, .nils, .own 448, dI, .any], [(448, .row 64 9)]⟩
def X96o0e1 : TSt := ⟨[dL, .nils, .own 448, dI, dB], [(448, .row 64 9)]⟩
def L96o0 (m : Nat) (vs : List Vr) (K : Cont (List DV × List (List D))) : Rs := la96o0 tu128 (vL vs 0) (fun n13 b14 l15 => K (.exit 0) (fillS X96o0e1 [.l (vL vs 0), .i (n13), .b (b14), .l (l15)])) m (vI vs 1) (vV vs 2) (vL vs 3)
def ST96 : List (Nat × (St → Cont (List DV × List (List D)) → Rs)) := [(0, sumT T96o0 (L96o0 KK))]
noncomputable def b96o0 : Code := match nodeAt c96 0 with | some (.loop a) => a | _ => .skip
theorem q96o0 : ∀ m vs K, L96o0 (m + 1) vs K = denK C96 (lkS ST96) b96o0 1 (fillS T96o0 vs) (loopK T96o0 (L96o0 m) K) := fun m vs K => by kernel_rfl
theorem o96o0 : SumOk C96 KK (sumT T96o0 (L96o0 KK)) (.loop b96o0) := loop_ok T96o0 L96o0 (sums_of (t := ST96) ⟨fun _ _ h => absurd h (by decide), trivial⟩) (fun _ _ => rfl) q96o0
theorem r96 : ∀ vs, tw96 vs = bodyK C96 (lkS ST96) Try.f96 (sig 96) c96 (fillAs A96 0 vs) := fun vs => by kernel_rfl
theorem ok96 : OkS sig (Gd G dep (dep 96)) 96 th96 := fun xs q h => body_ok Try.func96 (c := c96) rfl A96 tw96 (sums_of (C := C96) (t := ST96) ⟨sum_in (c' := .loop b96o0) (by kernel_rfl) (o96o0), trivial⟩) r96 (by rw [← tpw96]; exact opt_gOf h)
noncomputable def C60 : Ctx := ⟨Try.prog, sig, Gd G dep (dep 60), (sig 60).keep, (sig 60).ord⟩
noncomputable def c60 : Code := Try.f60.body.getD .skip
def ST60 : List (Nat × (St → Cont (List DV × List (List D)) → Rs)) := []
theorem r60 : ∀ vs, tw60 vs = bodyK C60 (lkS ST60) Try.f60 (sig 60) c60 (fillAs A60 0 vs) := fun vs => by kernel_rfl
theorem ok60 : OkS sig (Gd G dep (dep 60)) 60 th60 := fun xs q h => body_ok Try.func60 (c := c60) rfl A60 tw60 (sums_of (C := C60) (t := ST60) trivial) r60 (by rw [← tpw60]; exact opt_gOf h)
noncomputable def C97 : Ctx := ⟨Try.prog, sig, Gd G dep (dep 97), (sig 97).keep, (sig 97).ord⟩
noncomputable def c97 : Code := Try.f97.body.getD .skip
def ST97 : List (Nat × (St → Cont (List DV × List (List D)) → Rs)) := []
theorem r97 : ∀ vs, tw97 vs = bodyK C97 (lkS ST97) Try.f97 (sig 97) c97 (fillAs A97 0 vs) := fun vs => by kernel_rfl
theorem ok97 : OkS sig (Gd G dep (dep 97)) 97 th97 := fun xs q h => body_ok Try.func97 (c := c97) rfl A97 tw97 (sums_of (C := C97) (t := ST97) trivial) r97 (by rw [← tpw97]; exact opt_gOf h)
noncomputable def C61 : Ctx := ⟨Try.prog, sig, Gd G dep (dep 61), (sig 61).keep, (sig 61).ord⟩
noncomputable def c61 : Code := Try.f61.body.getD .skip
def T61o0 : TSt := ⟨[dL, .nils, .own 448, dI, .any], [(448, .row 90 5)]⟩
def X61o0e1 : TSt := ⟨[dL, .nils, .own 448, dI, dB], [(448, .row 90 5)]⟩
def L61o0 (m : Nat) (vs : List Vr) (K : Cont (List DV × List (List D))) : Rs := la61o0 tu97 (vL vs 0) (fun n13 b14 l15 => K (.exit 0) (fillS X61o0e1 [.l (vL vs 0), .i (n13), .b (b14), .l (l15)])) m (vI vs 1) (vV vs 2) (vL vs 3)
def ST61 : List (Nat × (St → Cont (List DV × List (List D)) → Rs)) := [(0, sumT T61o0 (L61o0 KK))]
noncomputable def b61o0 : Code := match nodeAt c61 0 with | some (.loop a) => a | _ => .skip
theorem q61o0 : ∀ m vs K, L61o0 (m + 1) vs K = denK C61 (lkS ST61) b61o0 1 (fillS T61o0 vs) (loopK T61o0 (L61o0 m) K) := fun m vs K => by kernel_rfl
theorem o61o0 : SumOk C61 KK (sumT T61o0 (L61o0 KK)) (.loop b61o0) := loop_ok T61o0 L61o0 (sums_of (t := ST61) ⟨fun _ _ h => absurd h (by decide), trivial⟩) (fun _ _ => rfl) q61o0
theorem r61 : ∀ vs, tw61 vs = bodyK C61 (lkS ST61) Try.f61 (sig 61) c61 (fillAs A61 0 vs) := fun vs => by kernel_rfl
theorem ok61 : OkS sig (Gd G dep (dep 61)) 61 th61 := fun xs q h => body_ok Try.func61 (c := c61) rfl A61 tw61 (sums_of (C := C61) (t := ST61) ⟨sum_in (c' := .loop b61o0) (by kernel_rfl) (o61o0), trivial⟩) r61 (by rw [← tpw61]; exact opt_gOf h)
noncomputable def C129 : Ctx := ⟨Try.prog, sig, Gd G dep (dep 129), (sig 129).keep, (sig 129).ord⟩
noncomputable def c129 : Code := Try.f129.body.getD .skip
def ST129 : List (Nat × (St → Cont (List DV × List (List D)) → Rs)) := []
theorem r129 : ∀ vs, tw129 vs = bodyK C129 (lkS ST129) Try.f129 (sig 129) c129 (fillAs A129 0 vs) := fun vs => by kernel_rfl
theorem ok129 : OkS sig (Gd G dep (dep 129)) 129 th129 := fun xs q h => body_ok Try.func129 (c := c129) rfl A129 tw129 (sums_of (C := C129) (t := ST129) trivial) r129 (by rw [← tpw129]; exact opt_gOf h)
noncomputable def C98 : Ctx := ⟨Try.prog, sig, Gd G dep (dep 98), (sig 98).keep, (sig 98).ord⟩
noncomputable def c98 : Code := Try.f98.body.getD .skip
def ST98 : List (Nat × (St → Cont (List DV × List (List D)) → Rs)) := []
theorem r98 : ∀ vs, tw98 vs = bodyK C98 (lkS ST98) Try.f98 (sig 98) c98 (fillAs A98 0 vs) := fun vs => by kernel_rfl
theorem ok98 : OkS sig (Gd G dep (dep 98)) 98 th98 := fun xs q h => body_ok Try.func98 (c := c98) rfl A98 tw98 (sums_of (C := C98) (t := ST98) trivial) r98 (by rw [← tpw98]; exact opt_gOf h)
noncomputable def C62 : Ctx := ⟨Try.prog, sig, Gd G dep (dep 62), (sig 62).keep, (sig 62).ord⟩
noncomputable def c62 : Code := Try.f62.body.getD .skip
def T62o0 : TSt := ⟨[dL, .nils, .own 448, dI, .any], [(448, .row 81 5)]⟩
def X62o0e1 : TSt := ⟨[dL, .nils, .own 448, dI, dB], [(448, .row 81 5)]⟩
def L62o0 (m : Nat) (vs : List Vr) (K : Cont (List DV × List (List D))) : Rs := la62o0 tu98 (vL vs 0) (fun n13 b14 l15 => K (.exit 0) (fillS X62o0e1 [.l (vL vs 0), .i (n13), .b (b14), .l (l15)])) m (vI vs 1) (vV vs 2) (vL vs 3)
def ST62 : List (Nat × (St → Cont (List DV × List (List D)) → Rs)) := [(0, sumT T62o0 (L62o0 KK))]
noncomputable def b62o0 : Code := match nodeAt c62 0 with | some (.loop a) => a | _ => .skip
theorem q62o0 : ∀ m vs K, L62o0 (m + 1) vs K = denK C62 (lkS ST62) b62o0 1 (fillS T62o0 vs) (loopK T62o0 (L62o0 m) K) := fun m vs K => by kernel_rfl
theorem o62o0 : SumOk C62 KK (sumT T62o0 (L62o0 KK)) (.loop b62o0) := loop_ok T62o0 L62o0 (sums_of (t := ST62) ⟨fun _ _ h => absurd h (by decide), trivial⟩) (fun _ _ => rfl) q62o0
theorem r62 : ∀ vs, tw62 vs = bodyK C62 (lkS ST62) Try.f62 (sig 62) c62 (fillAs A62 0 vs) := fun vs => by kernel_rfl
theorem ok62 : OkS sig (Gd G dep (dep 62)) 62 th62 := fun xs q h => body_ok Try.func62 (c := c62) rfl A62 tw62 (sums_of (C := C62) (t := ST62) ⟨sum_in (c' := .loop b62o0) (by kernel_rfl) (o62o0), trivial⟩) r62 (by rw [← tpw62]; exact opt_gOf h)
noncomputable def C24 : Ctx := ⟨Try.prog, sig, Gd G dep (dep 24), (sig 24).keep, (sig 24).ord⟩
noncomputable def c24 : Code := Try.f24.body.getD .skip
def ST24 : List (Nat × (St → Cont (List DV × List (List D)) → Rs)) := []
theorem r24 : ∀ vs, tw24 vs = bodyK C24 (lkS ST24) Try.f24 (sig 24) c24 (fillAs A24 0 vs) := fun vs => by kernel_rfl
theorem ok24 : OkS sig (Gd G dep (dep 24)) 24 th24 := fun xs q h => body_ok Try.func24 (c := c24) rfl A24 tw24 (sums_of (C := C24) (t := ST24) trivial) r24 (by rw [← tpw24]; exact opt_gOf h)
noncomputable def C28 : Ctx := ⟨Try.prog, sig, Gd G dep (dep 28), (sig 28).keep, (sig 28).ord⟩
noncomputable def c28 : Code := Try.f28.body.getD .skip
def T28o0 : TSt := ⟨[dL, .nils, .own 448, dI, .any], [(448, .row 28 5)]⟩
def X28o0e1 : TSt := ⟨[dL, .nils, .own 448, dI, dB], [(448, .row 28 5)]⟩
def L28o0 (m : Nat) (vs : List Vr) (K : Cont (List DV × List (List D))) : Rs := la28o0 tu24 (vL vs 0) (fun n13 b14 l15 => K (.exit 0) (fillS X28o0e1 [.l (vL vs 0), .i (n13), .b (b14), .l (l15)])) m (vI vs 1) (vV vs 2) (vL vs 3)
def ST28 : List (Nat × (St → Cont (List DV × List (List D)) → Rs)) := [(0, sumT T28o0 (L28o0 KK))]
noncomputable def b28o0 : Code := match nodeAt c28 0 with | some (.loop a) => a | _ => .skip
theorem q28o0 : ∀ m vs K, L28o0 (m + 1) vs K = denK C28 (lkS ST28) b28o0 1 (fillS T28o0 vs) (loopK T28o0 (L28o0 m) K) := fun m vs K => by kernel_rfl
theorem o28o0 : SumOk C28 KK (sumT T28o0 (L28o0 KK)) (.loop b28o0) := loop_ok T28o0 L28o0 (sums_of (t := ST28) ⟨fun _ _ h => absurd h (by decide), trivial⟩) (fun _ _ => rfl) q28o0
theorem r28 : ∀ vs, tw28 vs = bodyK C28 (lkS ST28) Try.f28 (sig 28) c28 (fillAs A28 0 vs) := fun vs => by kernel_rfl
theorem ok28 : OkS sig (Gd G dep (dep 28)) 28 th28 := fun xs q h => body_ok Try.func28 (c := c28) rfl A28 tw28 (sums_of (C := C28) (t := ST28) ⟨sum_in (c' := .loop b28o0) (by kernel_rfl) (o28o0), trivial⟩) r28 (by rw [← tpw28]; exact opt_gOf h)
noncomputable def C57 : Ctx := ⟨Try.prog, sig, Gd G dep (dep 57), (sig 57).keep, (sig 57).ord⟩
noncomputable def c57 : Code := Try.f57.body.getD .skip
def ST57 : List (Nat × (St → Cont (List DV × List (List D)) → Rs)) := []
theorem r57 : ∀ vs, tw57 vs = bodyK C57 (lkS ST57) Try.f57 (sig 57) c57 (fillAs A57 0 vs) := fun vs => by kernel_rfl
theorem ok57 : OkS sig (Gd G dep (dep 57)) 57 th57 := fun xs q h => body_ok Try.func57 (c := c57) rfl A57 tw57 (sums_of (C := C57) (t := ST57) trivial) r57 (by rw [← tpw57]; exact opt_gOf h)
noncomputable def C139 : Ctx := ⟨Try.prog, sig, Gd G dep (dep 139), (sig 139).keep, (sig 139).ord⟩
noncomputable def c139 : Code := Try.f139.body.getD .skip
def ST139 : List (Nat × (St → Cont (List DV × List (List D)) → Rs)) := []
theorem r139 : ∀ vs, tw139 vs = bodyK C139 (lkS ST139) Try.f139 (sig 139) c139 (fillAs A139 0 vs) := fun vs => by kernel_rfl
theorem ok139 : OkS sig (Gd G dep (dep 139)) 139 th139 := fun xs q h => body_ok Try.func139 (c := c139) rfl A139 tw139 (sums_of (C := C139) (t := ST139) trivial) r139 (by rw [← tpw139]; exact opt_gOf h)
noncomputable def C124 : Ctx := ⟨Try.prog, sig, Gd G dep (dep 124), (sig 124).keep, (sig 124).ord⟩
noncomputable def c124 : Code := Try.f124.body.getD .skip
def T124o1 : TSt := ⟨[dS, dB, dI, dB, .any, .any], []⟩
def X124o1e1 : TSt := ⟨[dS, dB, dI, dB, dB, dB], []⟩
def X124o1e2 : TSt := ⟨[dS, dB, dI, dB, dB, .any], []⟩
def L124o1 (m : Nat) (vs : List Vr) (K : Cont (List DV × List (List D))) : Rs := la124o1 tu57 tu139 (vS vs 0) (vB vs 1) (vB vs 3) (fun n18 b19 b20 => K .ret (fillS X124o1e1 [.s (vS vs 0), .b (false), .i (n18), .b (vB vs 3), .b (b19), .b (b20)])) (fun n21 b22 v23 => K (.exit 0) (fillS X124o1e2 [.s (vS vs 0), .b (vB vs 1), .i (n21), .b (vB vs 3), .b (b22), .v (v23)])) m (vI vs 2) (vV vs 4) (vV vs 5)
def ST124 : List (Nat × (St → Cont (List DV × List (List D)) → Rs)) := [(1, sumT T124o1 (L124o1 KK))]
noncomputable def b124o1 : Code := match nodeAt c124 1 with | some (.loop a) => a | _ => .skip
theorem q124o1 : ∀ m vs K, L124o1 (m + 1) vs K = denK C124 (lkS ST124) b124o1 2 (fillS T124o1 vs) (loopK T124o1 (L124o1 m) K) := fun m vs K => by kernel_rfl
theorem o124o1 : SumOk C124 KK (sumT T124o1 (L124o1 KK)) (.loop b124o1) := loop_ok T124o1 L124o1 (sums_of (t := ST124) ⟨fun _ _ h => absurd h (by decide), trivial⟩) (fun _ _ => rfl) q124o1
theorem r124 : ∀ vs, tw124 vs = bodyK C124 (lkS ST124) Try.f124 (sig 124) c124 (fillAs A124 0 vs) := fun vs => by kernel_rfl
theorem ok124 : OkS sig (Gd G dep (dep 124)) 124 th124 := fun xs q h => body_ok Try.func124 (c := c124) rfl A124 tw124 (sums_of (C := C124) (t := ST124) ⟨sum_in (c' := .loop b124o1) (by kernel_rfl) (o124o1), trivial⟩) r124 (by rw [← tpw124]; exact opt_gOf h)
noncomputable def C125 : Ctx := ⟨Try.prog, sig, Gd G dep (dep 125), (sig 125).keep, (sig 125).ord⟩
noncomputable def c125 : Code := Try.f125.body.getD .skip
def T125o1 : TSt := ⟨[dS, dB, dI, dB, .any, .any], []⟩
def X125o1e1 : TSt := ⟨[dS, dB, dI, dB, dB, dB], []⟩
def X125o1e2 : TSt := ⟨[dS, dB, dI, dB, dB, .any], []⟩
def L125o1 (m : Nat) (vs : List Vr) (K : Cont (List DV × List (List D))) : Rs := la125o1 tu57 tu139 (vS vs 0) (vB vs 1) (vB vs 3) (fun n18 b19 b20 => K .ret (fillS X125o1e1 [.s (vS vs 0), .b (false), .i (n18), .b (vB vs 3), .b (b19), .b (b20)])) (fun n21 b22 v23 => K (.exit 0) (fillS X125o1e2 [.s (vS vs 0), .b (vB vs 1), .i (n21), .b (vB vs 3), .b (b22), .v (v23)])) m (vI vs 2) (vV vs 4) (vV vs 5)
def ST125 : List (Nat × (St → Cont (List DV × List (List D)) → Rs)) := [(1, sumT T125o1 (L125o1 KK))]
noncomputable def b125o1 : Code := match nodeAt c125 1 with | some (.loop a) => a | _ => .skip
theorem q125o1 : ∀ m vs K, L125o1 (m + 1) vs K = denK C125 (lkS ST125) b125o1 2 (fillS T125o1 vs) (loopK T125o1 (L125o1 m) K) := fun m vs K => by kernel_rfl
theorem o125o1 : SumOk C125 KK (sumT T125o1 (L125o1 KK)) (.loop b125o1) := loop_ok T125o1 L125o1 (sums_of (t := ST125) ⟨fun _ _ h => absurd h (by decide), trivial⟩) (fun _ _ => rfl) q125o1
theorem r125 : ∀ vs, tw125 vs = bodyK C125 (lkS ST125) Try.f125 (sig 125) c125 (fillAs A125 0 vs) := fun vs => by kernel_rfl
theorem ok125 : OkS sig (Gd G dep (dep 125)) 125 th125 := fun xs q h => body_ok Try.func125 (c := c125) rfl A125 tw125 (sums_of (C := C125) (t := ST125) ⟨sum_in (c' := .loop b125o1) (by kernel_rfl) (o125o1), trivial⟩) r125 (by rw [← tpw125]; exact opt_gOf h)
noncomputable def C126 : Ctx := ⟨Try.prog, sig, Gd G dep (dep 126), (sig 126).keep, (sig 126).ord⟩
noncomputable def c126 : Code := Try.f126.body.getD .skip
def T126o0 : TSt := ⟨[.agg [dI, dL], dI, .ptr 128 0, dI, dI, .any, .any], [(128, .box [dI, dL])]⟩
def X126o0e1 : TSt := ⟨[.agg [dI, dL], dI, .ptr 128 0, dI, dI, dB, dB], [(128, .box [dI, dL])]⟩
def X126o0e2 : TSt := ⟨[.agg [dI, dL], dI, .ptr 128 0, dI, dI, dB, .any], [(128, .box [dI, dL])]⟩
def L126o0 (m : Nat) (vs : List Vr) (K : Cont (List DV × List (List D))) : Rs := l126o0 (vI vs 0) (vL vs 1) (vI vs 2) (vI vs 3) (vI vs 7) (vL vs 8) (fun n29 b30 b31 => K .ret (fillS X126o0e1 [.i (vI vs 0), .l (vL vs 1), .i (vI vs 2), .i (n29), .i (n29), .b (b30), .b (b31), .i (vI vs 7), .l (vL vs 8)])) (fun n32 b33 v34 => K (.exit 0) (fillS X126o0e2 [.i (vI vs 0), .l (vL vs 1), .i (vI vs 2), .i (vI vs 3), .i (n32), .b (b33), .v (v34), .i (vI vs 7), .l (vL vs 8)])) m (vI vs 4) (vV vs 5) (vV vs 6)
def ST126 : List (Nat × (St → Cont (List DV × List (List D)) → Rs)) := [(0, sumT T126o0 (L126o0 KK))]
noncomputable def b126o0 : Code := match nodeAt c126 0 with | some (.loop a) => a | _ => .skip
theorem q126o0 : ∀ m vs K, L126o0 (m + 1) vs K = denK C126 (lkS ST126) b126o0 1 (fillS T126o0 vs) (loopK T126o0 (L126o0 m) K) := fun m vs K => by kernel_rfl
theorem o126o0 : SumOk C126 KK (sumT T126o0 (L126o0 KK)) (.loop b126o0) := loop_ok T126o0 L126o0 (sums_of (t := ST126) ⟨fun _ _ h => absurd h (by decide), trivial⟩) (fun _ _ => rfl) q126o0
theorem r126 : ∀ vs, tw126 vs = bodyK C126 (lkS ST126) Try.f126 (sig 126) c126 (fillAs A126 0 vs) := fun vs => by kernel_rfl
theorem ok126 : OkS sig (Gd G dep (dep 126)) 126 th126 := fun xs q h => body_ok Try.func126 (c := c126) rfl A126 tw126 (sums_of (C := C126) (t := ST126) ⟨sum_in (c' := .loop b126o0) (by kernel_rfl) (o126o0), trivial⟩) r126 (by rw [← tpw126]; exact opt_gOf h)
noncomputable def C91 : Ctx := ⟨Try.prog, sig, Gd G dep (dep 91), (sig 91).keep, (sig 91).ord⟩
noncomputable def c91 : Code := Try.f91.body.getD .skip
def T91o5 : TSt := ⟨[.agg [dI, dL], .agg [dI, dI, dI, dI, dI, dS, dL, dI, dI], .ptr 128 0, .ptr 192 0, dB, dB, dI, .undef, dB, dI, dB, dB, dB, dB, .any, .any], [(128, .box [dI, dL]), (192, .box [dI, dI, dI, dI, dI, dS, dL, dI, dI])]⟩
def X91o5e1 : TSt := ⟨[.agg [dI, dL], .agg [dI, dI, dI, dI, dI, dS, dL, dI, dI], .ptr 128 0, .ptr 192 0, dB, dB, dI, .ptr 448 0, dB, dI, dB, dB, dB, dB, dB, dB], [(128, .box [dI, dL]), (192, .box [dI, dI, dI, dI, dI, dS, dL, dI, dI]), (448, .box [dS, dI])]⟩
def X91o5e2 : TSt := ⟨[.agg [dI, dL], .agg [dI, dI, dI, dI, dI, dS, dL, dI, dI], .ptr 128 0, .ptr 192 0, dB, dB, dI, .undef, dB, dI, dB, dB, dB, dB, dB, .any], [(128, .box [dI, dL]), (192, .box [dI, dI, dI, dI, dI, dS, dL, dI, dI])]⟩
def L91o5 (m : Nat) (vs : List Vr) (K : Cont (List DV × List (List D))) : Rs := la91o5 tu57 tu124 tu125 tu126 (vI vs 0) (vL vs 1) (vI vs 2) (vI vs 3) (vI vs 4) (vI vs 5) (vI vs 6) (vS vs 7) (vL vs 8) (vI vs 9) (vI vs 10) (vB vs 11) (vB vs 12) (vB vs 14) (vI vs 15) (vB vs 16) (vB vs 17) (vB vs 18) (vB vs 19) (vI vs 22) (vL vs 23) (vI vs 24) (vI vs 25) (vI vs 26) (vI vs 27) (vI vs 28) (vS vs 29) (vL vs 30) (vI vs 31) (vI vs 32) (fun n109 b110 b111 s112 n113 => K .ret (fillS X91o5e1 [.i (vI vs 0), .l (vL vs 1), .i (vI vs 2), .i (vI vs 3), .i (vI vs 4), .i (vI vs 5), .i (vI vs 6), .s (vS vs 7), .l (vL vs 8), .i (vI vs 9), .i (vI vs 10), .b (false), .b (vB vs 12), .i (n109), .b (vB vs 14), .i (vI vs 15), .b (vB vs 16), .b (vB vs 17), .b (vB vs 18), .b (vB vs 19), .b (b110), .b (b111), .i (vI vs 22), .l (vL vs 23), .i (vI vs 24), .i (vI vs 25), .i (vI vs 26), .i (vI vs 27), .i (vI vs 28), .s (vS vs 29), .l (vL vs 30), .i (vI vs 31), .i (vI vs 32), .s (s112), .i (n113)])) (fun n114 b115 v116 => K (.exit 1) (fillS X91o5e2 [.i (vI vs 0), .l (vL vs 1), .i (vI vs 2), .i (vI vs 3), .i (vI vs 4), .i (vI vs 5), .i (vI vs 6), .s (vS vs 7), .l (vL vs 8), .i (vI vs 9), .i (vI vs 10), .b (vB vs 11), .b (vB vs 12), .i (n114), .b (vB vs 14), .i (vI vs 15), .b (vB vs 16), .b (vB vs 17), .b (vB vs 18), .b (vB vs 19), .b (b115), .v (v116), .i (vI vs 22), .l (vL vs 23), .i (vI vs 24), .i (vI vs 25), .i (vI vs 26), .i (vI vs 27), .i (vI vs 28), .s (vS vs 29), .l (vL vs 30), .i (vI vs 31), .i (vI vs 32)])) m (vI vs 13) (vV vs 20) (vV vs 21)
def ST91 : List (Nat × (St → Cont (List DV × List (List D)) → Rs)) := [(5, sumT T91o5 (L91o5 KK))]
noncomputable def b91o5 : Code := match nodeAt c91 5 with | some (.loop a) => a | _ => .skip
theorem q91o5 : ∀ m vs K, L91o5 (m + 1) vs K = denK C91 (lkS ST91) b91o5 6 (fillS T91o5 vs) (loopK T91o5 (L91o5 m) K) := fun m vs K => by kernel_rfl
theorem o91o5 : SumOk C91 KK (sumT T91o5 (L91o5 KK)) (.loop b91o5) := loop_ok T91o5 L91o5 (sums_of (t := ST91) ⟨fun _ _ h => absurd h (by decide), trivial⟩) (fun _ _ => rfl) q91o5
theorem r91 : ∀ vs, tw91 vs = bodyK C91 (lkS ST91) Try.f91 (sig 91) c91 (fillAs A91 0 vs) := fun vs => by kernel_rfl
theorem ok91 : OkS sig (Gd G dep (dep 91)) 91 th91 := fun xs q h => body_ok Try.func91 (c := c91) rfl A91 tw91 (sums_of (C := C91) (t := ST91) ⟨sum_in (c' := .loop b91o5) (by kernel_rfl) (o91o5), trivial⟩) r91 (by rw [← tpw91]; exact opt_gOf h)
noncomputable def C92 : Ctx := ⟨Try.prog, sig, Gd G dep (dep 92), (sig 92).keep, (sig 92).ord⟩
noncomputable def c92 : Code := Try.f92.body.getD .skip
def T92o6 : TSt := ⟨[.agg [dI, dL], dI, .ptr 128 0, .nils, .own 960, .own 1216, dI, dI, dI, dI, .any, dB, dB, dB, dB, .any, .any], [(128, .box [dI, dL]), (960, .row 4 1), (1216, .row 4 1)]⟩
def X92o6e1 : TSt := ⟨[.agg [dI, dL], dI, .ptr 128 0, .nils, .own 960, .own 1216, dI, dI, dI, dI, .any, dB, dB, dB, dB, dB, .any], [(128, .box [dI, dL]), (960, .row 4 1), (1216, .row 4 1)]⟩
def L92o6 (m : Nat) (vs : List Vr) (K : Cont (List DV × List (List D))) : Rs := la92o6 tu126 (vI vs 0) (vL vs 1) (vI vs 2) (vI vs 3) (vI vs 4) (vI vs 5) (vB vs 8) (vB vs 9) (vB vs 10) (vB vs 11) (vI vs 14) (vL vs 15) (fun n417 v418 b419 v420 l421 l422 => K (.exit 4) (fillS X92o6e1 [.i (vI vs 0), .l (vL vs 1), .i (vI vs 2), .i (vI vs 3), .i (vI vs 4), .i (vI vs 5), .i (n417), .v (v418), .b (vB vs 8), .b (vB vs 9), .b (vB vs 10), .b (vB vs 11), .b (b419), .v (v420), .i (vI vs 14), .l (vL vs 15), .l (l421), .l (l422)])) m (vI vs 6) (vV vs 7) (vV vs 12) (vV vs 13) (vL vs 16) (vL vs 17)
def T92o3 : TSt := ⟨[.agg [dI, dL], dI, .ptr 128 0, .nils, .own 960, .own 1216, dI, dI, dI, .any, .any, dB, dB, .any, .any, .any, .any], [(128, .box [dI, dL]), (960, .row 4 1), (1216, .row 4 1)]⟩
def X92o3e1 : TSt := ⟨[.agg [dI, dL], dI, .ptr 128 0, .nils, .own 960, .own 1216, dI, dI, dI, .any, .any, dB, dB, dB, .any, .any, .any], [(128, .box [dI, dL]), (960, .row 4 1), (1216, .row 4 1)]⟩
def L92o3 (m : Nat) (vs : List Vr) (K : Cont (List DV × List (List D))) : Rs := la92o3 tu126 (vI vs 0) (vL vs 1) (vI vs 2) (vI vs 3) (vI vs 4) (vB vs 8) (vB vs 9) (vI vs 14) (vL vs 15) (fun n465 v466 v467 b468 v469 v470 v471 l472 l473 => K (.exit 2) (fillS X92o3e1 [.i (vI vs 0), .l (vL vs 1), .i (vI vs 2), .i (vI vs 3), .i (vI vs 4), .i (n465), .v (v466), .v (v467), .b (vB vs 8), .b (vB vs 9), .b (b468), .v (v469), .v (v470), .v (v471), .i (vI vs 14), .l (vL vs 15), .l (l472), .l (l473)])) m (vI vs 5) (vV vs 6) (vV vs 7) (vV vs 10) (vV vs 11) (vV vs 12) (vV vs 13) (vL vs 16) (vL vs 17)
def T92o1 : TSt := ⟨[.agg [dI, dL], dI, .ptr 128 0, .nils, .own 960, .own 1216, dI, dI, .any, .any, .any, dB, .any, .any, .any, .any, .any], [(128, .box [dI, dL]), (960, .row 4 1), (1216, .row 4 1)]⟩
def X92o1e1 : TSt := ⟨[.agg [dI, dL], dI, .ptr 128 0, .nils, .own 960, .own 1216, dI, dI, .any, .any, .any, dB, dB, .any, .any, .any, .any], [(128, .box [dI, dL]), (960, .row 4 1), (1216, .row 4 1)]⟩
def L92o1 (m : Nat) (vs : List Vr) (K : Cont (List DV × List (List D))) : Rs := la92o1 tu126 (vI vs 0) (vL vs 1) (vI vs 2) (vI vs 3) (vB vs 8) (vI vs 14) (vL vs 15) (fun n501 v502 v503 v504 b505 v506 v507 v508 v509 l510 l511 => K (.exit 0) (fillS X92o1e1 [.i (vI vs 0), .l (vL vs 1), .i (vI vs 2), .i (vI vs 3), .i (n501), .v (v502), .v (v503), .v (v504), .b (vB vs 8), .b (b505), .v (v506), .v (v507), .v (v508), .v (v509), .i (vI vs 14), .l (vL vs 15), .l (l510), .l (l511)])) m (vI vs 4) (vV vs 5) (vV vs 6) (vV vs 7) (vV vs 9) (vV vs 10) (vV vs 11) (vV vs 12) (vV vs 13) (vL vs 16) (vL vs 17)
def ST92 : List (Nat × (St → Cont (List DV × List (List D)) → Rs)) := [(6, sumT T92o6 (L92o6 KK)), (3, sumT T92o3 (L92o3 KK)), (1, sumT T92o1 (L92o1 KK))]
noncomputable def b92o6 : Code := match nodeAt c92 6 with | some (.loop a) => a | _ => .skip
noncomputable def b92o3 : Code := match nodeAt c92 3 with | some (.loop a) => a | _ => .skip
noncomputable def b92o1 : Code := match nodeAt c92 1 with | some (.loop a) => a | _ => .skip
theorem q92o6 : ∀ m vs K, L92o6 (m + 1) vs K = denK C92 (lkS ST92) b92o6 7 (fillS T92o6 vs) (loopK T92o6 (L92o6 m) K) := fun m vs K => by kernel_rfl
theorem o92o6 : SumOk C92 KK (sumT T92o6 (L92o6 KK)) (.loop b92o6) := loop_ok T92o6 L92o6 (sums_of (t := ST92) ⟨fun _ _ h => absurd h (by decide), fun _ _ h => absurd h (by decide), fun _ _ h => absurd h (by decide), trivial⟩) (fun _ _ => rfl) q92o6
theorem q92o3 : ∀ m vs K, L92o3 (m + 1) vs K = denK C92 (lkS ST92) b92o3 4 (fillS T92o3 vs) (loopK T92o3 (L92o3 m) K) := fun m vs K => by kernel_rfl
theorem o92o3 : SumOk C92 KK (sumT T92o3 (L92o3 KK)) (.loop b92o3) := loop_ok T92o3 L92o3 (sums_of (t := ST92) ⟨sum_in (c' := .loop b92o6) (by kernel_rfl) (o92o6), fun _ _ h => absurd h (by decide), fun _ _ h => absurd h (by decide), trivial⟩) (fun _ _ => rfl) q92o3
theorem q92o1 : ∀ m vs K, L92o1 (m + 1) vs K = denK C92 (lkS ST92) b92o1 2 (fillS T92o1 vs) (loopK T92o1 (L92o1 m) K) := fun m vs K => by kernel_rfl
theorem o92o1 : SumOk C92 KK (sumT T92o1 (L92o1 KK)) (.loop b92o1) := loop_ok T92o1 L92o1 (sums_of (t := ST92) ⟨sum_in (c' := .loop b92o6) (by kernel_rfl) (o92o6), sum_in (c' := .loop b92o3) (by kernel_rfl) (o92o3), fun _ _ h => absurd h (by decide), trivial⟩) (fun _ _ => rfl) q92o1
theorem r92 : ∀ vs, tw92 vs = bodyK C92 (lkS ST92) Try.f92 (sig 92) c92 (fillAs A92 0 vs) := fun vs => by kernel_rfl
theorem ok92 : OkS sig (Gd G dep (dep 92)) 92 th92 := fun xs q h => body_ok Try.func92 (c := c92) rfl A92 tw92 (sums_of (C := C92) (t := ST92) ⟨sum_in (c' := .loop b92o6) (by kernel_rfl) (o92o6), sum_in (c' := .loop b92o3) (by kernel_rfl) (o92o3), sum_in (c' := .loop b92o1) (by kernel_rfl) (o92o1), trivial⟩) r92 (by rw [← tpw92]; exact opt_gOf h)
noncomputable def C93 : Ctx := ⟨Try.prog, sig, Gd G dep (dep 93), (sig 93).keep, (sig 93).ord⟩
noncomputable def c93 : Code := Try.f93.body.getD .skip
def T93o2 : TSt := ⟨[.agg [dI, dL], dI, .ptr 128 0, dI, dI, dI, dI, dB, .any, .any], [(128, .box [dI, dL])]⟩
def X93o2e1 : TSt := ⟨[.agg [dI, dL], dI, .ptr 128 0, dI, dI, dI, dI, dB, dB, .any], [(128, .box [dI, dL])]⟩
def L93o2 (m : Nat) (vs : List Vr) (K : Cont (List DV × List (List D))) : Rs := l93o2 (vI vs 0) (vL vs 1) (vI vs 2) (vI vs 3) (vI vs 5) (vB vs 7) (vI vs 10) (vL vs 11) (fun n106 n107 b108 v109 => K (.exit 2) (fillS X93o2e1 [.i (vI vs 0), .l (vL vs 1), .i (vI vs 2), .i (vI vs 3), .i (n106), .i (vI vs 5), .i (n107), .b (vB vs 7), .b (b108), .v (v109), .i (vI vs 10), .l (vL vs 11)])) m (vI vs 4) (vI vs 6) (vV vs 8) (vV vs 9)
def T93o0 : TSt := ⟨[.agg [dI, dL], dI, .ptr 128 0, dI, dI, dI, .any, .any, .any, .any], [(128, .box [dI, dL])]⟩
def X93o0e1 : TSt := ⟨[.agg [dI, dL], dI, .ptr 128 0, dI, dI, dI, .any, dB, .any, .any], [(128, .box [dI, dL])]⟩
def L93o0 (m : Nat) (vs : List Vr) (K : Cont (List DV × List (List D))) : Rs := l93o0 (vI vs 0) (vL vs 1) (vI vs 2) (vI vs 3) (vI vs 10) (vL vs 11) (fun n126 n127 v128 b129 v130 v131 => K (.exit 0) (fillS X93o0e1 [.i (vI vs 0), .l (vL vs 1), .i (vI vs 2), .i (vI vs 3), .i (n126), .i (n127), .v (v128), .b (b129), .v (v130), .v (v131), .i (vI vs 10), .l (vL vs 11)])) m (vI vs 4) (vI vs 5) (vV vs 6) (vV vs 7) (vV vs 8) (vV vs 9)
def ST93 : List (Nat × (St → Cont (List DV × List (List D)) → Rs)) := [(2, sumT T93o2 (L93o2 KK)), (0, sumT T93o0 (L93o0 KK))]
noncomputable def b93o2 : Code := match nodeAt c93 2 with | some (.loop a) => a | _ => .skip
noncomputable def b93o0 : Code := match nodeAt c93 0 with | some (.loop a) => a | _ => .skip
theorem q93o2 : ∀ m vs K, L93o2 (m + 1) vs K = denK C93 (lkS ST93) b93o2 3 (fillS T93o2 vs) (loopK T93o2 (L93o2 m) K) := fun m vs K => by kernel_rfl
theorem o93o2 : SumOk C93 KK (sumT T93o2 (L93o2 KK)) (.loop b93o2) := loop_ok T93o2 L93o2 (sums_of (t := ST93) ⟨fun _ _ h => absurd h (by decide), fun _ _ h => absurd h (by decide), trivial⟩) (fun _ _ => rfl) q93o2
theorem q93o0 : ∀ m vs K, L93o0 (m + 1) vs K = denK C93 (lkS ST93) b93o0 1 (fillS T93o0 vs) (loopK T93o0 (L93o0 m) K) := fun m vs K => by kernel_rfl
theorem o93o0 : SumOk C93 KK (sumT T93o0 (L93o0 KK)) (.loop b93o0) := loop_ok T93o0 L93o0 (sums_of (t := ST93) ⟨sum_in (c' := .loop b93o2) (by kernel_rfl) (o93o2), fun _ _ h => absurd h (by decide), trivial⟩) (fun _ _ => rfl) q93o0
theorem r93 : ∀ vs, tw93 vs = bodyK C93 (lkS ST93) Try.f93 (sig 93) c93 (fillAs A93 0 vs) := fun vs => by kernel_rfl
theorem ok93 : OkS sig (Gd G dep (dep 93)) 93 th93 := fun xs q h => body_ok Try.func93 (c := c93) rfl A93 tw93 (sums_of (C := C93) (t := ST93) ⟨sum_in (c' := .loop b93o2) (by kernel_rfl) (o93o2), sum_in (c' := .loop b93o0) (by kernel_rfl) (o93o0), trivial⟩) r93 (by rw [← tpw93]; exact opt_gOf h)
noncomputable def C94 : Ctx := ⟨Try.prog, sig, Gd G dep (dep 94), (sig 94).keep, (sig 94).ord⟩
noncomputable def c94 : Code := Try.f94.body.getD .skip
def T94o0 : TSt := ⟨[.agg [dI, dL], .ptr 64 0, dI, dI, dI, .any], [(64, .box [dI, dL])]⟩
def X94o0e1 : TSt := ⟨[.agg [dI, dL], .ptr 64 0, dI, dI, dI, dB], [(64, .box [dI, dL])]⟩
def L94o0 (m : Nat) (vs : List Vr) (K : Cont (List DV × List (List D))) : Rs := l94o0 (vI vs 0) (vL vs 1) (vI vs 2) (vI vs 6) (vL vs 7) (fun n26 n27 b28 => K (.exit 0) (fillS X94o0e1 [.i (vI vs 0), .l (vL vs 1), .i (vI vs 2), .i (n26), .i (n27), .b (b28), .i (vI vs 6), .l (vL vs 7)])) m (vI vs 3) (vI vs 4) (vV vs 5)
def ST94 : List (Nat × (St → Cont (List DV × List (List D)) → Rs)) := [(0, sumT T94o0 (L94o0 KK))]
noncomputable def b94o0 : Code := match nodeAt c94 0 with | some (.loop a) => a | _ => .skip
theorem q94o0 : ∀ m vs K, L94o0 (m + 1) vs K = denK C94 (lkS ST94) b94o0 1 (fillS T94o0 vs) (loopK T94o0 (L94o0 m) K) := fun m vs K => by kernel_rfl
theorem o94o0 : SumOk C94 KK (sumT T94o0 (L94o0 KK)) (.loop b94o0) := loop_ok T94o0 L94o0 (sums_of (t := ST94) ⟨fun _ _ h => absurd h (by decide), trivial⟩) (fun _ _ => rfl) q94o0
theorem r94 : ∀ vs, tw94 vs = bodyK C94 (lkS ST94) Try.f94 (sig 94) c94 (fillAs A94 0 vs) := fun vs => by kernel_rfl
theorem ok94 : OkS sig (Gd G dep (dep 94)) 94 th94 := fun xs q h => body_ok Try.func94 (c := c94) rfl A94 tw94 (sums_of (C := C94) (t := ST94) ⟨sum_in (c' := .loop b94o0) (by kernel_rfl) (o94o0), trivial⟩) r94 (by rw [← tpw94]; exact opt_gOf h)
noncomputable def C127 : Ctx := ⟨Try.prog, sig, Gd G dep (dep 127), (sig 127).keep, (sig 127).ord⟩
noncomputable def c127 : Code := Try.f127.body.getD .skip
def T127o0 : TSt := ⟨[.agg [dI, dL], dI, .ptr 128 0, dI, dI, .own 768, dI, dI, dI, .any, .any], [(128, .box [dI, dL]), (768, .row 4 1)]⟩
def X127o0e1 : TSt := ⟨[.agg [dI, dL], dI, .ptr 128 0, dI, dI, .own 768, dI, dI, dI, dB, .any], [(128, .box [dI, dL]), (768, .row 4 1)]⟩
def L127o0 (m : Nat) (vs : List Vr) (K : Cont (List DV × List (List D))) : Rs := la127o0 tu92 (vI vs 0) (vL vs 1) (vI vs 2) (vI vs 3) (vI vs 4) (vI vs 10) (vL vs 11) (vL vs 12) (fun n45 n46 n47 b48 v49 => K (.exit 0) (fillS X127o0e1 [.i (vI vs 0), .l (vL vs 1), .i (vI vs 2), .i (vI vs 3), .i (vI vs 4), .i (n45), .i (n46), .i (n47), .b (b48), .v (v49), .i (vI vs 10), .l (vL vs 11), .l (vL vs 12)])) m (vI vs 5) (vI vs 6) (vI vs 7) (vV vs 8) (vV vs 9)
def ST127 : List (Nat × (St → Cont (List DV × List (List D)) → Rs)) := [(0, sumT T127o0 (L127o0 KK))]
noncomputable def b127o0 : Code := match nodeAt c127 0 with | some (.loop a) => a | _ => .skip
theorem q127o0 : ∀ m vs K, L127o0 (m + 1) vs K = denK C127 (lkS ST127) b127o0 1 (fillS T127o0 vs) (loopK T127o0 (L127o0 m) K) := fun m vs K => by kernel_rfl
theorem o127o0 : SumOk C127 KK (sumT T127o0 (L127o0 KK)) (.loop b127o0) := loop_ok T127o0 L127o0 (sums_of (t := ST127) ⟨fun _ _ h => absurd h (by decide), trivial⟩) (fun _ _ => rfl) q127o0
theorem r127 : ∀ vs, tw127 vs = bodyK C127 (lkS ST127) Try.f127 (sig 127) c127 (fillAs A127 0 vs) := fun vs => by kernel_rfl
theorem ok127 : OkS sig (Gd G dep (dep 127)) 127 th127 := fun xs q h => body_ok Try.func127 (c := c127) rfl A127 tw127 (sums_of (C := C127) (t := ST127) ⟨sum_in (c' := .loop b127o0) (by kernel_rfl) (o127o0), trivial⟩) r127 (by rw [← tpw127]; exact opt_gOf h)
noncomputable def C95 : Ctx := ⟨Try.prog, sig, Gd G dep (dep 95), (sig 95).keep, (sig 95).ord⟩
noncomputable def c95 : Code := Try.f95.body.getD .skip
def T95o0 : TSt := ⟨[.agg [dI, dL], .ptr 64 0, dB, dI, .undef, .any, .any, .any, .any, .any], [(64, .box [dI, dL])]⟩
def X95o0e1 : TSt := ⟨[.agg [dI, dL], .ptr 64 0, dB, dI, .ptr 256 0, dI, dI, dB, dB, dB], [(64, .box [dI, dL]), (256, .box [dI, dI, dI, dI, dI, dS, dL, dI, dI])]⟩
def X95o0e2 : TSt := ⟨[.agg [dI, dL], .ptr 64 0, dB, dI, .undef, .any, .any, dB, .any, .any], [(64, .box [dI, dL])]⟩
def L95o0 (m : Nat) (vs : List Vr) (K : Cont (List DV × List (List D))) : Rs := la95o0 tu127 (vI vs 0) (vL vs 1) (vB vs 2) (vI vs 9) (vL vs 10) (fun n42 n43 n44 b45 b46 b47 n48 n49 n50 n51 n52 s53 l54 n55 n56 => K .ret (fillS X95o0e1 [.i (vI vs 0), .l (vL vs 1), .b (true), .i (n42), .i (n43), .i (n44), .b (b45), .b (b46), .b (b47), .i (vI vs 9), .l (vL vs 10), .i (n48), .i (n49), .i (n50), .i (n51), .i (n52), .s (s53), .l (l54), .i (n55), .i (n56)])) (fun n57 v58 v59 b60 v61 v62 => K (.exit 0) (fillS X95o0e2 [.i (vI vs 0), .l (vL vs 1), .b (vB vs 2), .i (n57), .v (v58), .v (v59), .b (b60), .v (v61), .v (v62), .i (vI vs 9), .l (vL vs 10)])) m (vI vs 3) (vV vs 4) (vV vs 5) (vV vs 6) (vV vs 7) (vV vs 8)
def ST95 : List (Nat × (St → Cont (List DV × List (List D)) → Rs)) := [(0, sumT T95o0 (L95o0 KK))]
noncomputable def b95o0 : Code := match nodeAt c95 0 with | some (.loop a) => a | _ => .skip
theorem q95o0 : ∀ m vs K, L95o0 (m + 1) vs K = denK C95 (lkS ST95) b95o0 1 (fillS T95o0 vs) (loopK T95o0 (L95o0 m) K) := fun m vs K => by kernel_rfl
theorem o95o0 : SumOk C95 KK (sumT T95o0 (L95o0 KK)) (.loop b95o0) := loop_ok T95o0 L95o0 (sums_of (t := ST95) ⟨fun _ _ h => absurd h (by decide), trivial⟩) (fun _ _ => rfl) q95o0
theorem r95 : ∀ vs, tw95 vs = bodyK C95 (lkS ST95) Try.f95 (sig 95) c95 (fillAs A95 0 vs) := fun vs => by kernel_rfl
theorem ok95 : OkS sig (Gd G dep (dep 95)) 95 th95 := fun xs q h => body_ok Try.func95 (c := c95) rfl A95 tw95 (sums_of (C := C95) (t := ST95) ⟨sum_in (c' := .loop b95o0) (by kernel_rfl) (o95o0), trivial⟩) r95 (by rw [← tpw95]; exact opt_gOf h)
noncomputable def C56 : Ctx := ⟨Try.prog, sig, Gd G dep (dep 56), (sig 56).keep, (sig 56).ord⟩
noncomputable def c56 : Code := Try.f56.body.getD .skip
def T56o4 : TSt := ⟨[.agg [dI, dL], .ptr 64 0, dB, dI, .undef, .own 4864, dI, dB, dB, .any, .any, .any], [(64, .box [dI, dL]), (4864, .row 4 1)]⟩
def X56o4e1 : TSt := ⟨[.agg [dI, dL], .ptr 64 0, dB, dI, .undef, .own 4864, dI, dB, dB, .any, dB, dB], [(64, .box [dI, dL]), (4864, .row 4 1)]⟩
def X56o4e2 : TSt := ⟨[.agg [dI, dL], .ptr 64 0, dB, dI, .undef, .own 4864, dI, dB, dB, .any, dB, .any], [(64, .box [dI, dL]), (4864, .row 4 1)]⟩
def L56o4 (m : Nat) (vs : List Vr) (K : Cont (List DV × List (List D))) : Rs := la56o4 tu57 tu91 tu92 tu93 tu94 tu95 (vI vs 0) (vL vs 1) (vB vs 2) (vI vs 3) (vB vs 5) (vB vs 6) (vI vs 10) (vL vs 11) (vL vs 12) (fun n95 v96 b97 b98 => K .ret (fillS X56o4e1 [.i (vI vs 0), .l (vL vs 1), .b (false), .i (vI vs 3), .i (n95), .b (vB vs 5), .b (vB vs 6), .v (v96), .b (b97), .b (b98), .i (vI vs 10), .l (vL vs 11), .l (vL vs 12)])) (fun n99 v100 b101 v102 => K (.exit 2) (fillS X56o4e2 [.i (vI vs 0), .l (vL vs 1), .b (vB vs 2), .i (vI vs 3), .i (n99), .b (vB vs 5), .b (vB vs 6), .v (v100), .b (b101), .v (v102), .i (vI vs 10), .l (vL vs 11), .l (vL vs 12)])) m (vI vs 4) (vV vs 7) (vV vs 8) (vV vs 9)
def T56o1 : TSt := ⟨[.agg [dI, dL], .ptr 64 0, dB, dI, .undef, .undef, .undef, dB, .any, .any, .undef, .undef], [(64, .box [dI, dL])]⟩
def X56o1e1 : TSt := ⟨[.agg [dI, dL], .ptr 64 0, dB, dI, .ptr 256 0, .undef, .undef, dB, dB, dB, .undef, .undef], [(64, .box [dI, dL]), (256, .box [dI, dI, dI, dI, dI, dS, dL, dI, dI])]⟩
def X56o1e2 : TSt := ⟨[.agg [dI, dL], .ptr 64 0, dB, dI, .undef, .undef, .undef, dB, dB, .any, .undef, .undef], [(64, .box [dI, dL])]⟩
def L56o1 (m : Nat) (vs : List Vr) (K : Cont (List DV × List (List D))) : Rs := la56o1 tu57 tu91 tu92 tu93 tu94 tu95 (vI vs 0) (vL vs 1) (vB vs 2) (vB vs 4) (vI vs 7) (vL vs 8) (fun n28 b29 b30 n31 n32 n33 n34 n35 s36 l37 n38 n39 => K .ret (fillS X56o1e1 [.i (vI vs 0), .l (vL vs 1), .b (false), .i (n28), .b (vB vs 4), .b (b29), .b (b30), .i (vI vs 7), .l (vL vs 8), .i (n31), .i (n32), .i (n33), .i (n34), .i (n35), .s (s36), .l (l37), .i (n38), .i (n39)])) (fun n40 b41 v42 => K (.exit 0) (fillS X56o1e2 [.i (vI vs 0), .l (vL vs 1), .b (vB vs 2), .i (n40), .b (vB vs 4), .b (b41), .v (v42), .i (vI vs 7), .l (vL vs 8)])) m (vI vs 3) (vV vs 5) (vV vs 6)
def ST56 : List (Nat × (St → Cont (List DV × List (List D)) → Rs)) := [(4, sumT T56o4 (L56o4 KK)), (1, sumT T56o1 (L56o1 KK))]
noncomputable def b56o4 : Code := match nodeAt c56 4 with | some (.loop a) => a | _ => .skip
noncomputable def b56o1 : Code := match nodeAt c56 1 with | some (.loop a) => a | _ => .skip
theorem q56o4 : ∀ m vs K, L56o4 (m + 1) vs K = denK C56 (lkS ST56) b56o4 5 (fillS T56o4 vs) (loopK T56o4 (L56o4 m) K) := fun m vs K => by kernel_rfl
theorem o56o4 : SumOk C56 KK (sumT T56o4 (L56o4 KK)) (.loop b56o4) := loop_ok T56o4 L56o4 (sums_of (t := ST56) ⟨fun _ _ h => absurd h (by decide), fun _ _ h => absurd h (by decide), trivial⟩) (fun _ _ => rfl) q56o4
theorem q56o1 : ∀ m vs K, L56o1 (m + 1) vs K = denK C56 (lkS ST56) b56o1 2 (fillS T56o1 vs) (loopK T56o1 (L56o1 m) K) := fun m vs K => by kernel_rfl
theorem o56o1 : SumOk C56 KK (sumT T56o1 (L56o1 KK)) (.loop b56o1) := loop_ok T56o1 L56o1 (sums_of (t := ST56) ⟨sum_out (by kernel_rfl), fun _ _ h => absurd h (by decide), trivial⟩) (fun _ _ => rfl) q56o1
theorem r56 : ∀ vs, tw56 vs = bodyK C56 (lkS ST56) Try.f56 (sig 56) c56 (fillAs A56 0 vs) := fun vs => by kernel_rfl
theorem ok56 : OkS sig (Gd G dep (dep 56)) 56 th56 := fun xs q h => body_ok Try.func56 (c := c56) rfl A56 tw56 (sums_of (C := C56) (t := ST56) ⟨sum_in (c' := .loop b56o4) (by kernel_rfl) (o56o4), sum_in (c' := .loop b56o1) (by kernel_rfl) (o56o1), trivial⟩) r56 (by rw [← tpw56]; exact opt_gOf h)
noncomputable def C58 : Ctx := ⟨Try.prog, sig, Gd G dep (dep 58), (sig 58).keep, (sig 58).ord⟩
noncomputable def c58 : Code := Try.f58.body.getD .skip
def T58o1 : TSt := ⟨[dL, dB, dI, .undef, dB, .any, .any], []⟩
def X58o1e1 : TSt := ⟨[dL, dB, dI, .ptr 256 0, dB, dB, dB], [(256, .box [dI, dI, dI, dI, dI])]⟩
def X58o1e2 : TSt := ⟨[dL, dB, dI, .undef, dB, dB, .any], []⟩
def L58o1 (m : Nat) (vs : List Vr) (K : Cont (List DV × List (List D))) : Rs := la58o1 tu57 (vL vs 0) (vB vs 1) (vB vs 3) (fun n18 b19 b20 n21 n22 n23 n24 n25 => K .ret (fillS X58o1e1 [.l (vL vs 0), .b (false), .i (n18), .b (vB vs 3), .b (b19), .b (b20), .i (n21), .i (n22), .i (n23), .i (n24), .i (n25)])) (fun n26 b27 v28 => K (.exit 0) (fillS X58o1e2 [.l (vL vs 0), .b (vB vs 1), .i (n26), .b (vB vs 3), .b (b27), .v (v28)])) m (vI vs 2) (vV vs 4) (vV vs 5)
def ST58 : List (Nat × (St → Cont (List DV × List (List D)) → Rs)) := [(1, sumT T58o1 (L58o1 KK))]
noncomputable def b58o1 : Code := match nodeAt c58 1 with | some (.loop a) => a | _ => .skip
theorem q58o1 : ∀ m vs K, L58o1 (m + 1) vs K = denK C58 (lkS ST58) b58o1 2 (fillS T58o1 vs) (loopK T58o1 (L58o1 m) K) := fun m vs K => by kernel_rfl
theorem o58o1 : SumOk C58 KK (sumT T58o1 (L58o1 KK)) (.loop b58o1) := loop_ok T58o1 L58o1 (sums_of (t := ST58) ⟨fun _ _ h => absurd h (by decide), trivial⟩) (fun _ _ => rfl) q58o1
theorem r58 : ∀ vs, tw58 vs = bodyK C58 (lkS ST58) Try.f58 (sig 58) c58 (fillAs A58 0 vs) := fun vs => by kernel_rfl
theorem ok58 : OkS sig (Gd G dep (dep 58)) 58 th58 := fun xs q h => body_ok Try.func58 (c := c58) rfl A58 tw58 (sums_of (C := C58) (t := ST58) ⟨sum_in (c' := .loop b58o1) (by kernel_rfl) (o58o1), trivial⟩) r58 (by rw [← tpw58]; exact opt_gOf h)
noncomputable def C59 : Ctx := ⟨Try.prog, sig, Gd G dep (dep 59), (sig 59).keep, (sig 59).ord⟩
noncomputable def c59 : Code := Try.f59.body.getD .skip
def ST59 : List (Nat × (St → Cont (List DV × List (List D)) → Rs)) := []
theorem r59 : ∀ vs, tw59 vs = bodyK C59 (lkS ST59) Try.f59 (sig 59) c59 (fillAs A59 0 vs) := fun vs => by kernel_rfl
theorem ok59 : OkS sig (Gd G dep (dep 59)) 59 th59 := fun xs q h => body_ok Try.func59 (c := c59) rfl A59 tw59 (sums_of (C := C59) (t := ST59) trivial) r59 (by rw [← tpw59]; exact opt_gOf h)
noncomputable def C23 : Ctx := ⟨Try.prog, sig, Gd G dep (dep 23), (sig 23).keep, (sig 23).ord⟩
noncomputable def c23 : Code := Try.f23.body.getD .skip
def T23o1 : TSt := ⟨[.agg [dI, dL, dI, dL, dL], .ptr 64 0, dB, dI, .undef, dB, .any, .any], [(64, .box [dI, dL, dI, dL, dL])]⟩
def X23o1e1 : TSt := ⟨[.agg [dI, dL, dI, dL, dL], .ptr 64 0, dB, dI, .ptr 256 0, dB, dB, dB], [(64, .box [dI, dL, dI, dL, dL]), (256, .box [dI, dI, dI, dI, dS])]⟩
def X23o1e2 : TSt := ⟨[.agg [dI, dL, dI, dL, dL], .ptr 64 0, dB, dI, .undef, dB, dB, .any], [(64, .box [dI, dL, dI, dL, dL])]⟩
def L23o1 (m : Nat) (vs : List Vr) (K : Cont (List DV × List (List D))) : Rs := la23o1 tu56 tu57 tu58 tu59 (vI vs 0) (vL vs 1) (vI vs 2) (vL vs 3) (vL vs 4) (vB vs 5) (vB vs 7) (vI vs 10) (vL vs 11) (vI vs 12) (vL vs 13) (vL vs 14) (fun n49 b50 b51 n52 n53 n54 n55 s56 => K .ret (fillS X23o1e1 [.i (vI vs 0), .l (vL vs 1), .i (vI vs 2), .l (vL vs 3), .l (vL vs 4), .b (false), .i (n49), .b (vB vs 7), .b (b50), .b (b51), .i (vI vs 10), .l (vL vs 11), .i (vI vs 12), .l (vL vs 13), .l (vL vs 14), .i (n52), .i (n53), .i (n54), .i (n55), .s (s56)])) (fun n57 b58 v59 => K (.exit 0) (fillS X23o1e2 [.i (vI vs 0), .l (vL vs 1), .i (vI vs 2), .l (vL vs 3), .l (vL vs 4), .b (vB vs 5), .i (n57), .b (vB vs 7), .b (b58), .v (v59), .i (vI vs 10), .l (vL vs 11), .i (vI vs 12), .l (vL vs 13), .l (vL vs 14)])) m (vI vs 6) (vV vs 8) (vV vs 9)
def ST23 : List (Nat × (St → Cont (List DV × List (List D)) → Rs)) := [(1, sumT T23o1 (L23o1 KK))]
noncomputable def b23o1 : Code := match nodeAt c23 1 with | some (.loop a) => a | _ => .skip
theorem q23o1 : ∀ m vs K, L23o1 (m + 1) vs K = denK C23 (lkS ST23) b23o1 2 (fillS T23o1 vs) (loopK T23o1 (L23o1 m) K) := fun m vs K => by kernel_rfl
theorem o23o1 : SumOk C23 KK (sumT T23o1 (L23o1 KK)) (.loop b23o1) := loop_ok T23o1 L23o1 (sums_of (t := ST23) ⟨fun _ _ h => absurd h (by decide), trivial⟩) (fun _ _ => rfl) q23o1
theorem r23 : ∀ vs, tw23 vs = bodyK C23 (lkS ST23) Try.f23 (sig 23) c23 (fillAs A23 0 vs) := fun vs => by kernel_rfl
theorem ok23 : OkS sig (Gd G dep (dep 23)) 23 th23 := fun xs q h => body_ok Try.func23 (c := c23) rfl A23 tw23 (sums_of (C := C23) (t := ST23) ⟨sum_in (c' := .loop b23o1) (by kernel_rfl) (o23o1), trivial⟩) r23 (by rw [← tpw23]; exact opt_gOf h)
noncomputable def C27 : Ctx := ⟨Try.prog, sig, Gd G dep (dep 27), (sig 27).keep, (sig 27).ord⟩
noncomputable def c27 : Code := Try.f27.body.getD .skip
def T27o1 : TSt := ⟨[dL, dB, dI, dB, .any, .any], []⟩
def X27o1e1 : TSt := ⟨[dL, dB, dI, dB, dB, dB], []⟩
def X27o1e2 : TSt := ⟨[dL, dB, dI, dB, dB, .any], []⟩
def L27o1 (m : Nat) (vs : List Vr) (K : Cont (List DV × List (List D))) : Rs := la27o1 tu23 (vL vs 0) (vB vs 1) (vB vs 3) (fun n18 b19 b20 => K .ret (fillS X27o1e1 [.l (vL vs 0), .b (false), .i (n18), .b (vB vs 3), .b (b19), .b (b20)])) (fun n21 b22 v23 => K (.exit 0) (fillS X27o1e2 [.l (vL vs 0), .b (vB vs 1), .i (n21), .b (vB vs 3), .b (b22), .v (v23)])) m (vI vs 2) (vV vs 4) (vV vs 5)
def ST27 : List (Nat × (St → Cont (List DV × List (List D)) → Rs)) := [(1, sumT T27o1 (L27o1 KK))]
noncomputable def b27o1 : Code := match nodeAt c27 1 with | some (.loop a) => a | _ => .skip
theorem q27o1 : ∀ m vs K, L27o1 (m + 1) vs K = denK C27 (lkS ST27) b27o1 2 (fillS T27o1 vs) (loopK T27o1 (L27o1 m) K) := fun m vs K => by kernel_rfl
theorem o27o1 : SumOk C27 KK (sumT T27o1 (L27o1 KK)) (.loop b27o1) := loop_ok T27o1 L27o1 (sums_of (t := ST27) ⟨fun _ _ h => absurd h (by decide), trivial⟩) (fun _ _ => rfl) q27o1
theorem r27 : ∀ vs, tw27 vs = bodyK C27 (lkS ST27) Try.f27 (sig 27) c27 (fillAs A27 0 vs) := fun vs => by kernel_rfl
theorem ok27 : OkS sig (Gd G dep (dep 27)) 27 th27 := fun xs q h => body_ok Try.func27 (c := c27) rfl A27 tw27 (sums_of (C := C27) (t := ST27) ⟨sum_in (c' := .loop b27o1) (by kernel_rfl) (o27o1), trivial⟩) r27 (by rw [← tpw27]; exact opt_gOf h)
noncomputable def C69 : Ctx := ⟨Try.prog, sig, Gd G dep (dep 69), (sig 69).keep, (sig 69).ord⟩
noncomputable def c69 : Code := Try.f69.body.getD .skip
def T69o1 : TSt := ⟨[dI, dS, .own 448, dB, .any], [(448, .row 5 1)]⟩
def X69o1e1 : TSt := ⟨[dI, dS, .own 448, dB, dB], [(448, .row 5 1)]⟩
def L69o1 (m : Nat) (vs : List Vr) (K : Cont (List DV × List (List D))) : Rs := la69o1 tu57 (vS vs 1) (vB vs 2) (fun n16 b17 l18 => K (.exit 0) (fillS X69o1e1 [.i (n16), .s (vS vs 1), .b (vB vs 2), .b (b17), .l (l18)])) m (vI vs 0) (vV vs 3) (vL vs 4)
def ST69 : List (Nat × (St → Cont (List DV × List (List D)) → Rs)) := [(1, sumT T69o1 (L69o1 KK))]
noncomputable def b69o1 : Code := match nodeAt c69 1 with | some (.loop a) => a | _ => .skip
theorem q69o1 : ∀ m vs K, L69o1 (m + 1) vs K = denK C69 (lkS ST69) b69o1 2 (fillS T69o1 vs) (loopK T69o1 (L69o1 m) K) := fun m vs K => by kernel_rfl
theorem o69o1 : SumOk C69 KK (sumT T69o1 (L69o1 KK)) (.loop b69o1) := loop_ok T69o1 L69o1 (sums_of (t := ST69) ⟨fun _ _ h => absurd h (by decide), trivial⟩) (fun _ _ => rfl) q69o1
theorem r69 : ∀ vs, tw69 vs = bodyK C69 (lkS ST69) Try.f69 (sig 69) c69 (fillAs A69 0 vs) := fun vs => by kernel_rfl
theorem ok69 : OkS sig (Gd G dep (dep 69)) 69 th69 := fun xs q h => body_ok Try.func69 (c := c69) rfl A69 tw69 (sums_of (C := C69) (t := ST69) ⟨sum_in (c' := .loop b69o1) (by kernel_rfl) (o69o1), trivial⟩) r69 (by rw [← tpw69]; exact opt_gOf h)
noncomputable def C67 : Ctx := ⟨Try.prog, sig, Gd G dep (dep 67), (sig 67).keep, (sig 67).ord⟩
noncomputable def c67 : Code := Try.f67.body.getD .skip
def ST67 : List (Nat × (St → Cont (List DV × List (List D)) → Rs)) := []
theorem r67 : ∀ vs, tw67 vs = bodyK C67 (lkS ST67) Try.f67 (sig 67) c67 (fillAs A67 0 vs) := fun vs => by kernel_rfl
theorem ok67 : OkS sig (Gd G dep (dep 67)) 67 th67 := fun xs q h => body_ok Try.func67 (c := c67) rfl A67 tw67 (sums_of (C := C67) (t := ST67) trivial) r67 (by rw [← tpw67]; exact opt_gOf h)
noncomputable def C68 : Ctx := ⟨Try.prog, sig, Gd G dep (dep 68), (sig 68).keep, (sig 68).ord⟩
noncomputable def c68 : Code := Try.f68.body.getD .skip
def T68o3 : TSt := ⟨[.agg [dI, dL], .ptr 64 0, dS, dS, dI, .ptr 320 0, dI, dB, dB, .any], [(64, .box [dI, dL]), (320, .box [dI, dI, dI, dI, dI, dS, dL, dI, dI])]⟩
def X68o3e1 : TSt := ⟨[.agg [dI, dL], .ptr 64 0, dS, dS, dI, .ptr 320 0, dI, dB, dB, dB], [(64, .box [dI, dL]), (320, .box [dI, dI, dI, dI, dI, dS, dL, dI, dI])]⟩
def L68o3 (m : Nat) (vs : List Vr) (K : Cont (List DV × List (List D))) : Rs := la68o3 tu56 tu67 tu69 (vI vs 0) (vL vs 1) (vS vs 2) (vI vs 4) (vB vs 6) (vB vs 7) (vI vs 9) (vL vs 10) (vI vs 11) (vI vs 12) (vI vs 13) (vI vs 14) (vI vs 15) (vS vs 16) (vL vs 17) (vI vs 18) (vI vs 19) (fun s147 n148 b149 => K (.exit 2) (fillS X68o3e1 [.i (vI vs 0), .l (vL vs 1), .s (vS vs 2), .s (s147), .i (vI vs 4), .i (n148), .b (vB vs 6), .b (vB vs 7), .b (b149), .i (vI vs 9), .l (vL vs 10), .i (vI vs 11), .i (vI vs 12), .i (vI vs 13), .i (vI vs 14), .i (vI vs 15), .s (vS vs 16), .l (vL vs 17), .i (vI vs 18), .i (vI vs 19)])) m (vS vs 3) (vI vs 5) (vV vs 8)
def T68o1 : TSt := ⟨[.agg [dI, dL], .ptr 64 0, dS, dS, dI, .undef, .any, dB, .any, .any], [(64, .box [dI, dL])]⟩
def X68o1e1 : TSt := ⟨[.agg [dI, dL], .ptr 64 0, dS, dS, dI, .undef, .any, dB, dB, .any], [(64, .box [dI, dL])]⟩
def L68o1 (m : Nat) (vs : List Vr) (K : Cont (List DV × List (List D))) : Rs := la68o1 tu56 tu67 tu69 (vI vs 0) (vL vs 1) (vS vs 2) (vB vs 6) (vI vs 9) (vL vs 10) (fun s164 n165 v166 b167 v168 => K (.exit 0) (fillS X68o1e1 [.i (vI vs 0), .l (vL vs 1), .s (vS vs 2), .s (s164), .i (n165), .v (v166), .b (vB vs 6), .b (b167), .v (v168), .i (vI vs 9), .l (vL vs 10)])) m (vS vs 3) (vI vs 4) (vV vs 5) (vV vs 7) (vV vs 8)
def ST68 : List (Nat × (St → Cont (List DV × List (List D)) → Rs)) := [(3, sumT T68o3 (L68o3 KK)), (1, sumT T68o1 (L68o1 KK))]
noncomputable def b68o3 : Code := match nodeAt c68 3 with | some (.loop a) => a | _ => .skip
noncomputable def b68o1 : Code := match nodeAt c68 1 with | some (.loop a) => a | _ => .skip
theorem q68o3 : ∀ m vs K, L68o3 (m + 1) vs K = denK C68 (lkS ST68) b68o3 4 (fillS T68o3 vs) (loopK T68o3 (L68o3 m) K) := fun m vs K => by kernel_rfl
theorem o68o3 : SumOk C68 KK (sumT T68o3 (L68o3 KK)) (.loop b68o3) := loop_ok T68o3 L68o3 (sums_of (t := ST68) ⟨fun _ _ h => absurd h (by decide), fun _ _ h => absurd h (by decide), trivial⟩) (fun _ _ => rfl) q68o3
theorem q68o1 : ∀ m vs K, L68o1 (m + 1) vs K = denK C68 (lkS ST68) b68o1 2 (fillS T68o1 vs) (loopK T68o1 (L68o1 m) K) := fun m vs K => by kernel_rfl
theorem o68o1 : SumOk C68 KK (sumT T68o1 (L68o1 KK)) (.loop b68o1) := loop_ok T68o1 L68o1 (sums_of (t := ST68) ⟨sum_in (c' := .loop b68o3) (by kernel_rfl) (o68o3), fun _ _ h => absurd h (by decide), trivial⟩) (fun _ _ => rfl) q68o1
theorem r68 : ∀ vs, tw68 vs = bodyK C68 (lkS ST68) Try.f68 (sig 68) c68 (fillAs A68 0 vs) := fun vs => by kernel_rfl
theorem ok68 : OkS sig (Gd G dep (dep 68)) 68 th68 := fun xs q h => body_ok Try.func68 (c := c68) rfl A68 tw68 (sums_of (C := C68) (t := ST68) ⟨sum_in (c' := .loop b68o3) (by kernel_rfl) (o68o3), sum_in (c' := .loop b68o1) (by kernel_rfl) (o68o1), trivial⟩) r68 (by rw [← tpw68]; exact opt_gOf h)
noncomputable def C70 : Ctx := ⟨Try.prog, sig, Gd G dep (dep 70), (sig 70).keep, (sig 70).ord⟩
noncomputable def c70 : Code := Try.f70.body.getD .skip
def ST70 : List (Nat × (St → Cont (List DV × List (List D)) → Rs)) := []
theorem r70 : ∀ vs, tw70 vs = bodyK C70 (lkS ST70) Try.f70 (sig 70) c70 (fillAs A70 0 vs) := fun vs => by kernel_rfl
theorem ok70 : OkS sig (Gd G dep (dep 70)) 70 th70 := fun xs q h => body_ok Try.func70 (c := c70) rfl A70 tw70 (sums_of (C := C70) (t := ST70) trivial) r70 (by rw [← tpw70]; exact opt_gOf h)
noncomputable def C30 : Ctx := ⟨Try.prog, sig, Gd G dep (dep 30), (sig 30).keep, (sig 30).ord⟩
noncomputable def c30 : Code := Try.f30.body.getD .skip
def T30o3 : TSt := ⟨[.agg [dI, dL, dI, dL, dL], .ptr 64 0, dS, dS, dI, .undef, dI, .undef, dB, dB, .any], [(64, .box [dI, dL, dI, dL, dL])]⟩
def X30o3e1 : TSt := ⟨[.agg [dI, dL, dI, dL, dL], .ptr 64 0, dS, dS, dI, .undef, dI, .undef, dB, dB, dB], [(64, .box [dI, dL, dI, dL, dL])]⟩
def L30o3 (m : Nat) (vs : List Vr) (K : Cont (List DV × List (List D))) : Rs := la30o3 tu23 tu67 tu68 tu69 tu70 (vI vs 0) (vL vs 1) (vI vs 2) (vL vs 3) (vL vs 4) (vS vs 5) (vI vs 7) (vB vs 9) (vB vs 10) (vI vs 12) (vL vs 13) (vI vs 14) (vL vs 15) (vL vs 16) (fun s106 n107 b108 => K (.exit 2) (fillS X30o3e1 [.i (vI vs 0), .l (vL vs 1), .i (vI vs 2), .l (vL vs 3), .l (vL vs 4), .s (vS vs 5), .s (s106), .i (vI vs 7), .i (n107), .b (vB vs 9), .b (vB vs 10), .b (b108), .i (vI vs 12), .l (vL vs 13), .i (vI vs 14), .l (vL vs 15), .l (vL vs 16)])) m (vS vs 6) (vI vs 8) (vV vs 11)
def T30o1 : TSt := ⟨[.agg [dI, dL, dI, dL, dL], .ptr 64 0, dS, dS, dI, .undef, .undef, .undef, dB, .any, .undef], [(64, .box [dI, dL, dI, dL, dL])]⟩
def X30o1e1 : TSt := ⟨[.agg [dI, dL, dI, dL, dL], .ptr 64 0, dS, dS, dI, .undef, .undef, .undef, dB, dB, .undef], [(64, .box [dI, dL, dI, dL, dL])]⟩
def L30o1 (m : Nat) (vs : List Vr) (K : Cont (List DV × List (List D))) : Rs := la30o1 tu23 tu67 tu68 tu69 tu70 (vI vs 0) (vL vs 1) (vI vs 2) (vL vs 3) (vL vs 4) (vS vs 5) (vB vs 8) (vI vs 10) (vL vs 11) (vI vs 12) (vL vs 13) (vL vs 14) (fun s50 n51 b52 => K (.exit 0) (fillS X30o1e1 [.i (vI vs 0), .l (vL vs 1), .i (vI vs 2), .l (vL vs 3), .l (vL vs 4), .s (vS vs 5), .s (s50), .i (n51), .b (vB vs 8), .b (b52), .i (vI vs 10), .l (vL vs 11), .i (vI vs 12), .l (vL vs 13), .l (vL vs 14)])) m (vS vs 6) (vI vs 7) (vV vs 9)
def ST30 : List (Nat × (St → Cont (List DV × List (List D)) → Rs)) := [(3, sumT T30o3 (L30o3 KK)), (1, sumT T30o1 (L30o1 KK))]
noncomputable def b30o3 : Code := match nodeAt c30 3 with | some (.loop a) => a | _ => .skip
noncomputable def b30o1 : Code := match nodeAt c30 1 with | some (.loop a) => a | _ => .skip
theorem q30o3 : ∀ m vs K, L30o3 (m + 1) vs K = denK C30 (lkS ST30) b30o3 4 (fillS T30o3 vs) (loopK T30o3 (L30o3 m) K) := fun m vs K => by kernel_rfl
theorem o30o3 : SumOk C30 KK (sumT T30o3 (L30o3 KK)) (.loop b30o3) := loop_ok T30o3 L30o3 (sums_of (t := ST30) ⟨fun _ _ h => absurd h (by decide), fun _ _ h => absurd h (by decide), trivial⟩) (fun _ _ => rfl) q30o3
theorem q30o1 : ∀ m vs K, L30o1 (m + 1) vs K = denK C30 (lkS ST30) b30o1 2 (fillS T30o1 vs) (loopK T30o1 (L30o1 m) K) := fun m vs K => by kernel_rfl
theorem o30o1 : SumOk C30 KK (sumT T30o1 (L30o1 KK)) (.loop b30o1) := loop_ok T30o1 L30o1 (sums_of (t := ST30) ⟨sum_out (by kernel_rfl), fun _ _ h => absurd h (by decide), trivial⟩) (fun _ _ => rfl) q30o1
theorem r30 : ∀ vs, tw30 vs = bodyK C30 (lkS ST30) Try.f30 (sig 30) c30 (fillAs A30 0 vs) := fun vs => by kernel_rfl
theorem ok30 : OkS sig (Gd G dep (dep 30)) 30 th30 := fun xs q h => body_ok Try.func30 (c := c30) rfl A30 tw30 (sums_of (C := C30) (t := ST30) ⟨sum_in (c' := .loop b30o3) (by kernel_rfl) (o30o3), sum_in (c' := .loop b30o1) (by kernel_rfl) (o30o1), trivial⟩) r30 (by rw [← tpw30]; exact opt_gOf h)
noncomputable def C32 : Ctx := ⟨Try.prog, sig, Gd G dep (dep 32), (sig 32).keep, (sig 32).ord⟩
noncomputable def c32 : Code := Try.f32.body.getD .skip
def T32o1 : TSt := ⟨[dL, dS, dS, dI, dB, .any], []⟩
def X32o1e1 : TSt := ⟨[dL, dS, dS, dI, dB, dB], []⟩
def L32o1 (m : Nat) (vs : List Vr) (K : Cont (List DV × List (List D))) : Rs := la32o1 tu27 tu30 tu67 (vL vs 0) (vS vs 1) (vB vs 4) (fun s19 n20 b21 => K (.exit 0) (fillS X32o1e1 [.l (vL vs 0), .s (vS vs 1), .s (s19), .i (n20), .b (vB vs 4), .b (b21)])) m (vS vs 2) (vI vs 3) (vV vs 5)
def ST32 : List (Nat × (St → Cont (List DV × List (List D)) → Rs)) := [(1, sumT T32o1 (L32o1 KK))]
noncomputable def b32o1 : Code := match nodeAt c32 1 with | some (.loop a) => a | _ => .skip
theorem q32o1 : ∀ m vs K, L32o1 (m + 1) vs K = denK C32 (lkS ST32) b32o1 2 (fillS T32o1 vs) (loopK T32o1 (L32o1 m) K) := fun m vs K => by kernel_rfl
theorem o32o1 : SumOk C32 KK (sumT T32o1 (L32o1 KK)) (.loop b32o1) := loop_ok T32o1 L32o1 (sums_of (t := ST32) ⟨fun _ _ h => absurd h (by decide), trivial⟩) (fun _ _ => rfl) q32o1
theorem r32 : ∀ vs, tw32 vs = bodyK C32 (lkS ST32) Try.f32 (sig 32) c32 (fillAs A32 0 vs) := fun vs => by kernel_rfl
theorem ok32 : OkS sig (Gd G dep (dep 32)) 32 th32 := fun xs q h => body_ok Try.func32 (c := c32) rfl A32 tw32 (sums_of (C := C32) (t := ST32) ⟨sum_in (c' := .loop b32o1) (by kernel_rfl) (o32o1), trivial⟩) r32 (by rw [← tpw32]; exact opt_gOf h)
noncomputable def C63 : Ctx := ⟨Try.prog, sig, Gd G dep (dep 63), (sig 63).keep, (sig 63).ord⟩
noncomputable def c63 : Code := Try.f63.body.getD .skip
def ST63 : List (Nat × (St → Cont (List DV × List (List D)) → Rs)) := []
theorem r63 : ∀ vs, tw63 vs = bodyK C63 (lkS ST63) Try.f63 (sig 63) c63 (fillAs A63 0 vs) := fun vs => by kernel_rfl
theorem ok63 : OkS sig (Gd G dep (dep 63)) 63 th63 := fun xs q h => body_ok Try.func63 (c := c63) rfl A63 tw63 (sums_of (C := C63) (t := ST63) trivial) r63 (by rw [← tpw63]; exact opt_gOf h)
noncomputable def C64 : Ctx := ⟨Try.prog, sig, Gd G dep (dep 64), (sig 64).keep, (sig 64).ord⟩
noncomputable def c64 : Code := Try.f64.body.getD .skip
def ST64 : List (Nat × (St → Cont (List DV × List (List D)) → Rs)) := []
theorem r64 : ∀ vs, tw64 vs = bodyK C64 (lkS ST64) Try.f64 (sig 64) c64 (fillAs A64 0 vs) := fun vs => by kernel_rfl
theorem ok64 : OkS sig (Gd G dep (dep 64)) 64 th64 := fun xs q h => body_ok Try.func64 (c := c64) rfl A64 tw64 (sums_of (C := C64) (t := ST64) trivial) r64 (by rw [← tpw64]; exact opt_gOf h)
noncomputable def C65 : Ctx := ⟨Try.prog, sig, Gd G dep (dep 65), (sig 65).keep, (sig 65).ord⟩
noncomputable def c65 : Code := Try.f65.body.getD .skip
def T65o0 : TSt := ⟨[dL, dB, .any, .undef, dL, dI, dI, .any, .any], []⟩
def X65o0e1 : TSt := ⟨[dL, dB, dI, .ptr 256 0, dL, dI, dI, dB, dB], [(256, .box [dI, dI, dI, dI, dI])]⟩
def X65o0e2 : TSt := ⟨[dL, dB, .any, .undef, dL, dI, dI, dB, .any], []⟩
def L65o0 (m : Nat) (vs : List Vr) (K : Cont (List DV × List (List D))) : Rs := la65o0 tu63 (vL vs 0) (vB vs 1) (vL vs 3) (vI vs 4) (fun n23 b24 b25 n26 n27 n28 n29 n30 => K .ret (fillS X65o0e1 [.l (vL vs 0), .b (false), .i (n23), .l (vL vs 3), .i (vI vs 4), .i (n23), .b (b24), .b (b25), .i (n26), .i (n27), .i (n28), .i (n29), .i (n30)])) (fun v31 n32 b33 v34 => K (.exit 0) (fillS X65o0e2 [.l (vL vs 0), .b (vB vs 1), .v (v31), .l (vL vs 3), .i (vI vs 4), .i (n32), .b (b33), .v (v34)])) m (vV vs 2) (vI vs 5) (vV vs 6) (vV vs 7)
def ST65 : List (Nat × (St → Cont (List DV × List (List D)) → Rs)) := [(0, sumT T65o0 (L65o0 KK))]
noncomputable def b65o0 : Code := match nodeAt c65 0 with | some (.loop a) => a | _ => .skip
theorem q65o0 : ∀ m vs K, L65o0 (m + 1) vs K = denK C65 (lkS ST65) b65o0 1 (fillS T65o0 vs) (loopK T65o0 (L65o0 m) K) := fun m vs K => by kernel_rfl
theorem o65o0 : SumOk C65 KK (sumT T65o0 (L65o0 KK)) (.loop b65o0) := loop_ok T65o0 L65o0 (sums_of (t := ST65) ⟨fun _ _ h => absurd h (by decide), trivial⟩) (fun _ _ => rfl) q65o0
theorem r65 : ∀ vs, tw65 vs = bodyK C65 (lkS ST65) Try.f65 (sig 65) c65 (fillAs A65 0 vs) := fun vs => by kernel_rfl
theorem ok65 : OkS sig (Gd G dep (dep 65)) 65 th65 := fun xs q h => body_ok Try.func65 (c := c65) rfl A65 tw65 (sums_of (C := C65) (t := ST65) ⟨sum_in (c' := .loop b65o0) (by kernel_rfl) (o65o0), trivial⟩) r65 (by rw [← tpw65]; exact opt_gOf h)
noncomputable def C141 : Ctx := ⟨Try.prog, sig, Gd G dep (dep 141), (sig 141).keep, (sig 141).ord⟩
noncomputable def c141 : Code := Try.f141.body.getD .skip
def ST141 : List (Nat × (St → Cont (List DV × List (List D)) → Rs)) := []
theorem r141 : ∀ vs, tw141 vs = bodyK C141 (lkS ST141) Try.f141 (sig 141) c141 (fillAs A141 0 vs) := fun vs => by kernel_rfl
theorem ok141 : OkS sig (Gd G dep (dep 141)) 141 th141 := fun xs q h => body_ok Try.func141 (c := c141) rfl A141 tw141 (sums_of (C := C141) (t := ST141) trivial) r141 (by rw [← tpw141]; exact opt_gOf h)
noncomputable def C130 : Ctx := ⟨Try.prog, sig, Gd G dep (dep 130), (sig 130).keep, (sig 130).ord⟩
noncomputable def c130 : Code := Try.f130.body.getD .skip
def T130o0 : TSt := ⟨[dS, dB, .any, dI, dI, .any, .any], []⟩
def X130o0e1 : TSt := ⟨[dS, dB, dI, dI, dI, dB, dB], []⟩
def X130o0e2 : TSt := ⟨[dS, dB, .any, dI, dI, dB, .any], []⟩
def L130o0 (m : Nat) (vs : List Vr) (K : Cont (List DV × List (List D))) : Rs := la130o0 tu63 tu141 (vS vs 0) (vB vs 1) (vI vs 3) (fun n20 b21 b22 => K .ret (fillS X130o0e1 [.s (vS vs 0), .b (false), .i (n20), .i (vI vs 3), .i (n20), .b (b21), .b (b22)])) (fun v23 n24 b25 v26 => K (.exit 0) (fillS X130o0e2 [.s (vS vs 0), .b (vB vs 1), .v (v23), .i (vI vs 3), .i (n24), .b (b25), .v (v26)])) m (vV vs 2) (vI vs 4) (vV vs 5) (vV vs 6)
def ST130 : List (Nat × (St → Cont (List DV × List (List D)) → Rs)) := [(0, sumT T130o0 (L130o0 KK))]
noncomputable def b130o0 : Code := match nodeAt c130 0 with | some (.loop a) => a | _ => .skip
theorem q130o0 : ∀ m vs K, L130o0 (m + 1) vs K = denK C130 (lkS ST130) b130o0 1 (fillS T130o0 vs) (loopK T130o0 (L130o0 m) K) := fun m vs K => by kernel_rfl
theorem o130o0 : SumOk C130 KK (sumT T130o0 (L130o0 KK)) (.loop b130o0) := loop_ok T130o0 L130o0 (sums_of (t := ST130) ⟨fun _ _ h => absurd h (by decide), trivial⟩) (fun _ _ => rfl) q130o0
theorem r130 : ∀ vs, tw130 vs = bodyK C130 (lkS ST130) Try.f130 (sig 130) c130 (fillAs A130 0 vs) := fun vs => by kernel_rfl
theorem ok130 : OkS sig (Gd G dep (dep 130)) 130 th130 := fun xs q h => body_ok Try.func130 (c := c130) rfl A130 tw130 (sums_of (C := C130) (t := ST130) ⟨sum_in (c' := .loop b130o0) (by kernel_rfl) (o130o0), trivial⟩) r130 (by rw [← tpw130]; exact opt_gOf h)
noncomputable def C142 : Ctx := ⟨Try.prog, sig, Gd G dep (dep 142), (sig 142).keep, (sig 142).ord⟩
noncomputable def c142 : Code := Try.f142.body.getD .skip
def T142o0 : TSt := ⟨[dS, dB, .any, dI, dI, .any, .any], []⟩
def X142o0e1 : TSt := ⟨[dS, dB, dI, dI, dI, dB, dB], []⟩
def X142o0e2 : TSt := ⟨[dS, dB, .any, dI, dI, dB, .any], []⟩
def L142o0 (m : Nat) (vs : List Vr) (K : Cont (List DV × List (List D))) : Rs := la142o0 tu63 tu141 (vS vs 0) (vB vs 1) (vI vs 3) (fun n20 b21 b22 => K .ret (fillS X142o0e1 [.s (vS vs 0), .b (false), .i (n20), .i (vI vs 3), .i (n20), .b (b21), .b (b22)])) (fun v23 n24 b25 v26 => K (.exit 0) (fillS X142o0e2 [.s (vS vs 0), .b (vB vs 1), .v (v23), .i (vI vs 3), .i (n24), .b (b25), .v (v26)])) m (vV vs 2) (vI vs 4) (vV vs 5) (vV vs 6)
def ST142 : List (Nat × (St → Cont (List DV × List (List D)) → Rs)) := [(0, sumT T142o0 (L142o0 KK))]
noncomputable def b142o0 : Code := match nodeAt c142 0 with | some (.loop a) => a | _ => .skip
theorem q142o0 : ∀ m vs K, L142o0 (m + 1) vs K = denK C142 (lkS ST142) b142o0 1 (fillS T142o0 vs) (loopK T142o0 (L142o0 m) K) := fun m vs K => by kernel_rfl
theorem o142o0 : SumOk C142 KK (sumT T142o0 (L142o0 KK)) (.loop b142o0) := loop_ok T142o0 L142o0 (sums_of (t := ST142) ⟨fun _ _ h => absurd h (by decide), trivial⟩) (fun _ _ => rfl) q142o0
theorem r142 : ∀ vs, tw142 vs = bodyK C142 (lkS ST142) Try.f142 (sig 142) c142 (fillAs A142 0 vs) := fun vs => by kernel_rfl
theorem ok142 : OkS sig (Gd G dep (dep 142)) 142 th142 := fun xs q h => body_ok Try.func142 (c := c142) rfl A142 tw142 (sums_of (C := C142) (t := ST142) ⟨sum_in (c' := .loop b142o0) (by kernel_rfl) (o142o0), trivial⟩) r142 (by rw [← tpw142]; exact opt_gOf h)
noncomputable def C132 : Ctx := ⟨Try.prog, sig, Gd G dep (dep 132), (sig 132).keep, (sig 132).ord⟩
noncomputable def c132 : Code := Try.f132.body.getD .skip
def T132o0 : TSt := ⟨[.pv [.i .i64, .l] 0, dI, .nilp, .any, dI, dI, .any, .any], []⟩
def X132o0e1 : TSt := ⟨[.pv [.i .i64, .l] 0, dI, .pv [.i .i64, .i .i64, .i .i64, .i .i64, .i .i64, .s, .l, .i .i64, .i .i64] 0, dI, dI, dI, dB, dB], []⟩
def X132o0e2 : TSt := ⟨[.pv [.i .i64, .l] 0, dI, .nilp, .any, dI, dI, dB, .any], []⟩
def L132o0 (m : Nat) (vs : List Vr) (K : Cont (List DV × List (List D))) : Rs := l132o0 (vI vs 0) (vL vs 1) (vI vs 2) (vI vs 4) (fun n25 n26 n27 n28 n29 s30 l31 n32 n33 n34 b35 b36 => K .ret (fillS X132o0e1 [.i (vI vs 0), .l (vL vs 1), .i (vI vs 2), .i (n25), .i (n26), .i (n27), .i (n28), .i (n29), .s (s30), .l (l31), .i (n32), .i (n33), .i (n34), .i (vI vs 4), .i (n34), .b (b35), .b (b36)])) (fun v37 n38 b39 v40 => K (.exit 0) (fillS X132o0e2 [.i (vI vs 0), .l (vL vs 1), .i (vI vs 2), .v (v37), .i (vI vs 4), .i (n38), .b (b39), .v (v40)])) m (vV vs 3) (vI vs 5) (vV vs 6) (vV vs 7)
def ST132 : List (Nat × (St → Cont (List DV × List (List D)) → Rs)) := [(0, sumT T132o0 (L132o0 KK))]
noncomputable def b132o0 : Code := match nodeAt c132 0 with | some (.loop a) => a | _ => .skip
theorem q132o0 : ∀ m vs K, L132o0 (m + 1) vs K = denK C132 (lkS ST132) b132o0 1 (fillS T132o0 vs) (loopK T132o0 (L132o0 m) K) := fun m vs K => by kernel_rfl
theorem o132o0 : SumOk C132 KK (sumT T132o0 (L132o0 KK)) (.loop b132o0) := loop_ok T132o0 L132o0 (sums_of (t := ST132) ⟨fun _ _ h => absurd h (by decide), trivial⟩) (fun _ _ => rfl) q132o0
theorem r132 : ∀ vs, tw132 vs = bodyK C132 (lkS ST132) Try.f132 (sig 132) c132 (fillAs A132 0 vs) := fun vs => by kernel_rfl
theorem ok132 : OkS sig (Gd G dep (dep 132)) 132 th132 := fun xs q h => body_ok Try.func132 (c := c132) rfl A132 tw132 (sums_of (C := C132) (t := ST132) ⟨sum_in (c' := .loop b132o0) (by kernel_rfl) (o132o0), trivial⟩) r132 (by rw [← tpw132]; exact opt_gOf h)
noncomputable def C131 : Ctx := ⟨Try.prog, sig, Gd G dep (dep 131), (sig 131).keep, (sig 131).ord⟩
noncomputable def c131 : Code := Try.f131.body.getD .skip
def T131o0 : TSt := ⟨[.pv [.i .i64, .l] 0, .agg [dI, dI, dI, dI, dI, dS, dL, dI, dI], .ptr 192 0, dB, .any, .undef, dL, dI, dI, .any, .any], [(192, .box [dI, dI, dI, dI, dI, dS, dL, dI, dI])]⟩
def X131o0e1 : TSt := ⟨[.pv [.i .i64, .l] 0, .agg [dI, dI, dI, dI, dI, dS, dL, dI, dI], .ptr 192 0, dB, dI, .ptr 384 0, dL, dI, dI, dB, dB], [(192, .box [dI, dI, dI, dI, dI, dS, dL, dI, dI]), (384, .box [dS, dI])]⟩
def X131o0e2 : TSt := ⟨[.pv [.i .i64, .l] 0, .agg [dI, dI, dI, dI, dI, dS, dL, dI, dI], .ptr 192 0, dB, .any, .undef, dL, dI, dI, dB, .any], [(192, .box [dI, dI, dI, dI, dI, dS, dL, dI, dI])]⟩
def L131o0 (m : Nat) (vs : List Vr) (K : Cont (List DV × List (List D))) : Rs := la131o0 tu132 tu142 (vI vs 0) (vL vs 1) (vI vs 2) (vI vs 3) (vI vs 4) (vI vs 5) (vI vs 6) (vS vs 7) (vL vs 8) (vI vs 9) (vI vs 10) (vB vs 11) (vL vs 13) (vI vs 14) (vI vs 18) (vI vs 19) (vI vs 20) (vI vs 21) (vI vs 22) (vS vs 23) (vL vs 24) (vI vs 25) (vI vs 26) (fun n90 b91 b92 s93 n94 => K .ret (fillS X131o0e1 [.i (vI vs 0), .l (vL vs 1), .i (vI vs 2), .i (vI vs 3), .i (vI vs 4), .i (vI vs 5), .i (vI vs 6), .s (vS vs 7), .l (vL vs 8), .i (vI vs 9), .i (vI vs 10), .b (false), .i (n90), .l (vL vs 13), .i (vI vs 14), .i (n90), .b (b91), .b (b92), .i (vI vs 18), .i (vI vs 19), .i (vI vs 20), .i (vI vs 21), .i (vI vs 22), .s (vS vs 23), .l (vL vs 24), .i (vI vs 25), .i (vI vs 26), .s (s93), .i (n94)])) (fun v95 n96 b97 v98 => K (.exit 0) (fillS X131o0e2 [.i (vI vs 0), .l (vL vs 1), .i (vI vs 2), .i (vI vs 3), .i (vI vs 4), .i (vI vs 5), .i (vI vs 6), .s (vS vs 7), .l (vL vs 8), .i (vI vs 9), .i (vI vs 10), .b (vB vs 11), .v (v95), .l (vL vs 13), .i (vI vs 14), .i (n96), .b (b97), .v (v98), .i (vI vs 18), .i (vI vs 19), .i (vI vs 20), .i (vI vs 21), .i (vI vs 22), .s (vS vs 23), .l (vL vs 24), .i (vI vs 25), .i (vI vs 26)])) m (vV vs 12) (vI vs 15) (vV vs 16) (vV vs 17)
def ST131 : List (Nat × (St → Cont (List DV × List (List D)) → Rs)) := [(0, sumT T131o0 (L131o0 KK))]
noncomputable def b131o0 : Code := match nodeAt c131 0 with | some (.loop a) => a | _ => .skip
theorem q131o0 : ∀ m vs K, L131o0 (m + 1) vs K = denK C131 (lkS ST131) b131o0 1 (fillS T131o0 vs) (loopK T131o0 (L131o0 m) K) := fun m vs K => by kernel_rfl
theorem o131o0 : SumOk C131 KK (sumT T131o0 (L131o0 KK)) (.loop b131o0) := loop_ok T131o0 L131o0 (sums_of (t := ST131) ⟨fun _ _ h => absurd h (by decide), trivial⟩) (fun _ _ => rfl) q131o0
theorem r131 : ∀ vs, tw131 vs = bodyK C131 (lkS ST131) Try.f131 (sig 131) c131 (fillAs A131 0 vs) := fun vs => by kernel_rfl
theorem ok131 : OkS sig (Gd G dep (dep 131)) 131 th131 := fun xs q h => body_ok Try.func131 (c := c131) rfl A131 tw131 (sums_of (C := C131) (t := ST131) ⟨sum_in (c' := .loop b131o0) (by kernel_rfl) (o131o0), trivial⟩) r131 (by rw [← tpw131]; exact opt_gOf h)
noncomputable def C99 : Ctx := ⟨Try.prog, sig, Gd G dep (dep 99), (sig 99).keep, (sig 99).ord⟩
noncomputable def c99 : Code := Try.f99.body.getD .skip
def ST99 : List (Nat × (St → Cont (List DV × List (List D)) → Rs)) := []
theorem r99 : ∀ vs, tw99 vs = bodyK C99 (lkS ST99) Try.f99 (sig 99) c99 (fillAs A99 0 vs) := fun vs => by kernel_rfl
theorem ok99 : OkS sig (Gd G dep (dep 99)) 99 th99 := fun xs q h => body_ok Try.func99 (c := c99) rfl A99 tw99 (sums_of (C := C99) (t := ST99) trivial) r99 (by rw [← tpw99]; exact opt_gOf h)
noncomputable def C133 : Ctx := ⟨Try.prog, sig, Gd G dep (dep 133), (sig 133).keep, (sig 133).ord⟩
noncomputable def c133 : Code := Try.f133.body.getD .skip
def T133o0 : TSt := ⟨[dL, dI, dI, .any, dI, dI, .any, .any], []⟩
def X133o0e1 : TSt := ⟨[dL, dI, dI, dI, dI, dI, dB, dB], []⟩
def X133o0e2 : TSt := ⟨[dL, dI, dI, .any, dI, dI, dB, .any], []⟩
def L133o0 (m : Nat) (vs : List Vr) (K : Cont (List DV × List (List D))) : Rs := l133o0 (vL vs 0) (vI vs 1) (vI vs 2) (vI vs 4) (fun n24 b25 b26 => K .ret (fillS X133o0e1 [.l (vL vs 0), .i (vI vs 1), .i (n24), .i (n24), .i (vI vs 4), .i (n24), .b (b25), .b (b26)])) (fun v27 n28 b29 v30 => K (.exit 0) (fillS X133o0e2 [.l (vL vs 0), .i (vI vs 1), .i (vI vs 2), .v (v27), .i (vI vs 4), .i (n28), .b (b29), .v (v30)])) m (vV vs 3) (vI vs 5) (vV vs 6) (vV vs 7)
def ST133 : List (Nat × (St → Cont (List DV × List (List D)) → Rs)) := [(0, sumT T133o0 (L133o0 KK))]
noncomputable def b133o0 : Code := match nodeAt c133 0 with | some (.loop a) => a | _ => .skip
theorem q133o0 : ∀ m vs K, L133o0 (m + 1) vs K = denK C133 (lkS ST133) b133o0 1 (fillS T133o0 vs) (loopK T133o0 (L133o0 m) K) := fun m vs K => by kernel_rfl
theorem o133o0 : SumOk C133 KK (sumT T133o0 (L133o0 KK)) (.loop b133o0) := loop_ok T133o0 L133o0 (sums_of (t := ST133) ⟨fun _ _ h => absurd h (by decide), trivial⟩) (fun _ _ => rfl) q133o0
theorem r133 : ∀ vs, tw133 vs = bodyK C133 (lkS ST133) Try.f133 (sig 133) c133 (fillAs A133 0 vs) := fun vs => by kernel_rfl
theorem ok133 : OkS sig (Gd G dep (dep 133)) 133 th133 := fun xs q h => body_ok Try.func133 (c := c133) rfl A133 tw133 (sums_of (C := C133) (t := ST133) ⟨sum_in (c' := .loop b133o0) (by kernel_rfl) (o133o0), trivial⟩) r133 (by rw [← tpw133]; exact opt_gOf h)
noncomputable def C101 : Ctx := ⟨Try.prog, sig, Gd G dep (dep 101), (sig 101).keep, (sig 101).ord⟩
noncomputable def c101 : Code := Try.f101.body.getD .skip
def ST101 : List (Nat × (St → Cont (List DV × List (List D)) → Rs)) := []
theorem r101 : ∀ vs, tw101 vs = bodyK C101 (lkS ST101) Try.f101 (sig 101) c101 (fillAs A101 0 vs) := fun vs => by kernel_rfl
theorem ok101 : OkS sig (Gd G dep (dep 101)) 101 th101 := fun xs q h => body_ok Try.func101 (c := c101) rfl A101 tw101 (sums_of (C := C101) (t := ST101) trivial) r101 (by rw [← tpw101]; exact opt_gOf h)
noncomputable def C100 : Ctx := ⟨Try.prog, sig, Gd G dep (dep 100), (sig 100).keep, (sig 100).ord⟩
noncomputable def c100 : Code := Try.f100.body.getD .skip
def T100o3 : TSt := ⟨[.pv [.i .i64, .l] 0, dI, .nils, .own 704, .own 832, dI, .any, .undef, dB, dB, dL, dI, dI, .any, .any], [(704, .row 3 1), (832, .row 3 1)]⟩
def X100o3e1 : TSt := ⟨[.pv [.i .i64, .l] 0, dI, .nils, .own 704, .own 832, dI, .any, .undef, dB, dB, dL, dI, dI, dB, .any], [(704, .row 3 1), (832, .row 3 1)]⟩
def L100o3 (m : Nat) (vs : List Vr) (K : Cont (List DV × List (List D))) : Rs := la100o3 tu101 tu132 (vI vs 0) (vL vs 1) (vI vs 2) (vI vs 3) (vB vs 5) (vB vs 6) (vL vs 7) (vI vs 8) (fun v130 n131 b132 v133 l134 l135 => K (.exit 2) (fillS X100o3e1 [.i (vI vs 0), .l (vL vs 1), .i (vI vs 2), .i (vI vs 3), .v (v130), .b (vB vs 5), .b (vB vs 6), .l (vL vs 7), .i (vI vs 8), .i (n131), .b (b132), .v (v133), .l (l134), .l (l135)])) m (vV vs 4) (vI vs 9) (vV vs 10) (vV vs 11) (vL vs 12) (vL vs 13)
def T100o0 : TSt := ⟨[.pv [.i .i64, .l] 0, dI, .nils, .own 704, .own 832, dI, .any, .undef, .any, .any, .any, .any, .any, .any, .any], [(704, .row 3 1), (832, .row 3 1)]⟩
def X100o0e1 : TSt := ⟨[.pv [.i .i64, .l] 0, dI, .nils, .own 704, .own 832, dI, .any, .undef, dB, .any, .any, .any, .any, .any, .any], [(704, .row 3 1), (832, .row 3 1)]⟩
def L100o0 (m : Nat) (vs : List Vr) (K : Cont (List DV × List (List D))) : Rs := la100o0 tu101 tu132 (vI vs 0) (vL vs 1) (vI vs 2) (fun n170 v171 b172 v173 v174 v175 v176 v177 v178 l179 l180 => K (.exit 0) (fillS X100o0e1 [.i (vI vs 0), .l (vL vs 1), .i (vI vs 2), .i (n170), .v (v171), .b (b172), .v (v173), .v (v174), .v (v175), .v (v176), .v (v177), .v (v178), .l (l179), .l (l180)])) m (vI vs 3) (vV vs 4) (vV vs 5) (vV vs 6) (vV vs 7) (vV vs 8) (vV vs 9) (vV vs 10) (vV vs 11) (vL vs 12) (vL vs 13)
def ST100 : List (Nat × (St → Cont (List DV × List (List D)) → Rs)) := [(3, sumT T100o3 (L100o3 KK)), (0, sumT T100o0 (L100o0 KK))]
noncomputable def b100o3 : Code := match nodeAt c100 3 with | some (.loop a) => a | _ => .skip
noncomputable def b100o0 : Code := match nodeAt c100 0 with | some (.loop a) => a | _ => .skip
theorem q100o3 : ∀ m vs K, L100o3 (m + 1) vs K = denK C100 (lkS ST100) b100o3 4 (fillS T100o3 vs) (loopK T100o3 (L100o3 m) K) := fun m vs K => by kernel_rfl
theorem o100o3 : SumOk C100 KK (sumT T100o3 (L100o3 KK)) (.loop b100o3) := loop_ok T100o3 L100o3 (sums_of (t := ST100) ⟨fun _ _ h => absurd h (by decide), fun _ _ h => absurd h (by decide), trivial⟩) (fun _ _ => rfl) q100o3
theorem q100o0 : ∀ m vs K, L100o0 (m + 1) vs K = denK C100 (lkS ST100) b100o0 1 (fillS T100o0 vs) (loopK T100o0 (L100o0 m) K) := fun m vs K => by kernel_rfl
theorem o100o0 : SumOk C100 KK (sumT T100o0 (L100o0 KK)) (.loop b100o0) := loop_ok T100o0 L100o0 (sums_of (t := ST100) ⟨sum_in (c' := .loop b100o3) (by kernel_rfl) (o100o3), fun _ _ h => absurd h (by decide), trivial⟩) (fun _ _ => rfl) q100o0
theorem r100 : ∀ vs, tw100 vs = bodyK C100 (lkS ST100) Try.f100 (sig 100) c100 (fillAs A100 0 vs) := fun vs => by kernel_rfl
theorem ok100 : OkS sig (Gd G dep (dep 100)) 100 th100 := fun xs q h => body_ok Try.func100 (c := c100) rfl A100 tw100 (sums_of (C := C100) (t := ST100) ⟨sum_in (c' := .loop b100o3) (by kernel_rfl) (o100o3), sum_in (c' := .loop b100o0) (by kernel_rfl) (o100o0), trivial⟩) r100 (by rw [← tpw100]; exact opt_gOf h)
noncomputable def C102 : Ctx := ⟨Try.prog, sig, Gd G dep (dep 102), (sig 102).keep, (sig 102).ord⟩
noncomputable def c102 : Code := Try.f102.body.getD .skip
def T102o2 : TSt := ⟨[.pv [.i .i64, .l] 0, dI, dI, dI, .ptr 448 0, .undef, dL, dI, dI, dB, dL, dI, dI, .any, .any], [(448, .box [dI, dI, dI, dI, dI, dS, dL, dI, dI])]⟩
def X102o2e1 : TSt := ⟨[.pv [.i .i64, .l] 0, dI, dI, dI, .ptr 448 0, .undef, dL, dI, dI, dB, dL, dI, dI, dB, .any], [(448, .box [dI, dI, dI, dI, dI, dS, dL, dI, dI])]⟩
def L102o2 (m : Nat) (vs : List Vr) (K : Cont (List DV × List (List D))) : Rs := l102o2 (vI vs 0) (vL vs 1) (vI vs 2) (vI vs 3) (vL vs 5) (vI vs 6) (vI vs 7) (vB vs 8) (vL vs 9) (vI vs 10) (vI vs 14) (vI vs 15) (vI vs 16) (vI vs 17) (vI vs 18) (vS vs 19) (vL vs 20) (vI vs 21) (vI vs 22) (fun n174 n175 b176 v177 => K (.exit 2) (fillS X102o2e1 [.i (vI vs 0), .l (vL vs 1), .i (vI vs 2), .i (vI vs 3), .i (n174), .l (vL vs 5), .i (vI vs 6), .i (vI vs 7), .b (vB vs 8), .l (vL vs 9), .i (vI vs 10), .i (n175), .b (b176), .v (v177), .i (vI vs 14), .i (vI vs 15), .i (vI vs 16), .i (vI vs 17), .i (vI vs 18), .s (vS vs 19), .l (vL vs 20), .i (vI vs 21), .i (vI vs 22)])) m (vI vs 4) (vI vs 11) (vV vs 12) (vV vs 13)
def T102o0 : TSt := ⟨[.pv [.i .i64, .l] 0, dI, dI, dI, .undef, .undef, dL, dI, dI, .any, .any, .any, .any, .any, .any], []⟩
def X102o0e1 : TSt := ⟨[.pv [.i .i64, .l] 0, dI, dI, dI, .undef, .undef, dL, dI, dI, dB, .any, .any, .any, .any, .any], []⟩
def L102o0 (m : Nat) (vs : List Vr) (K : Cont (List DV × List (List D))) : Rs := l102o0 (vI vs 0) (vL vs 1) (vI vs 2) (vI vs 3) (vL vs 5) (vI vs 6) (fun n196 n197 b198 v199 v200 v201 v202 v203 => K (.exit 0) (fillS X102o0e1 [.i (vI vs 0), .l (vL vs 1), .i (vI vs 2), .i (vI vs 3), .i (n196), .l (vL vs 5), .i (vI vs 6), .i (n197), .b (b198), .v (v199), .v (v200), .v (v201), .v (v202), .v (v203)])) m (vI vs 4) (vI vs 7) (vV vs 8) (vV vs 9) (vV vs 10) (vV vs 11) (vV vs 12) (vV vs 13)
def ST102 : List (Nat × (St → Cont (List DV × List (List D)) → Rs)) := [(2, sumT T102o2 (L102o2 KK)), (0, sumT T102o0 (L102o0 KK))]
noncomputable def b102o2 : Code := match nodeAt c102 2 with | some (.loop a) => a | _ => .skip
noncomputable def b102o0 : Code := match nodeAt c102 0 with | some (.loop a) => a | _ => .skip
theorem q102o2 : ∀ m vs K, L102o2 (m + 1) vs K = denK C102 (lkS ST102) b102o2 3 (fillS T102o2 vs) (loopK T102o2 (L102o2 m) K) := fun m vs K => by kernel_rfl
theorem o102o2 : SumOk C102 KK (sumT T102o2 (L102o2 KK)) (.loop b102o2) := loop_ok T102o2 L102o2 (sums_of (t := ST102) ⟨fun _ _ h => absurd h (by decide), fun _ _ h => absurd h (by decide), trivial⟩) (fun _ _ => rfl) q102o2
theorem q102o0 : ∀ m vs K, L102o0 (m + 1) vs K = denK C102 (lkS ST102) b102o0 1 (fillS T102o0 vs) (loopK T102o0 (L102o0 m) K) := fun m vs K => by kernel_rfl
theorem o102o0 : SumOk C102 KK (sumT T102o0 (L102o0 KK)) (.loop b102o0) := loop_ok T102o0 L102o0 (sums_of (t := ST102) ⟨sum_in (c' := .loop b102o2) (by kernel_rfl) (o102o2), fun _ _ h => absurd h (by decide), trivial⟩) (fun _ _ => rfl) q102o0
theorem r102 : ∀ vs, tw102 vs = bodyK C102 (lkS ST102) Try.f102 (sig 102) c102 (fillAs A102 0 vs) := fun vs => by kernel_rfl
theorem ok102 : OkS sig (Gd G dep (dep 102)) 102 th102 := fun xs q h => body_ok Try.func102 (c := c102) rfl A102 tw102 (sums_of (C := C102) (t := ST102) ⟨sum_in (c' := .loop b102o2) (by kernel_rfl) (o102o2), sum_in (c' := .loop b102o0) (by kernel_rfl) (o102o0), trivial⟩) r102 (by rw [← tpw102]; exact opt_gOf h)
noncomputable def C103 : Ctx := ⟨Try.prog, sig, Gd G dep (dep 103), (sig 103).keep, (sig 103).ord⟩
noncomputable def c103 : Code := Try.f103.body.getD .skip
def T103o0 : TSt := ⟨[.pv [.i .i64, .l] 0, dI, dI, .undef, dL, dI, dI, .any], []⟩
def X103o0e1 : TSt := ⟨[.pv [.i .i64, .l] 0, dI, dI, .undef, dL, dI, dI, dB], []⟩
def L103o0 (m : Nat) (vs : List Vr) (K : Cont (List DV × List (List D))) : Rs := l103o0 (vI vs 0) (vL vs 1) (vI vs 2) (vL vs 4) (vI vs 5) (fun n26 n27 b28 => K (.exit 0) (fillS X103o0e1 [.i (vI vs 0), .l (vL vs 1), .i (vI vs 2), .i (n26), .l (vL vs 4), .i (vI vs 5), .i (n27), .b (b28)])) m (vI vs 3) (vI vs 6) (vV vs 7)
def ST103 : List (Nat × (St → Cont (List DV × List (List D)) → Rs)) := [(0, sumT T103o0 (L103o0 KK))]
noncomputable def b103o0 : Code := match nodeAt c103 0 with | some (.loop a) => a | _ => .skip
theorem q103o0 : ∀ m vs K, L103o0 (m + 1) vs K = denK C103 (lkS ST103) b103o0 1 (fillS T103o0 vs) (loopK T103o0 (L103o0 m) K) := fun m vs K => by kernel_rfl
theorem o103o0 : SumOk C103 KK (sumT T103o0 (L103o0 KK)) (.loop b103o0) := loop_ok T103o0 L103o0 (sums_of (t := ST103) ⟨fun _ _ h => absurd h (by decide), trivial⟩) (fun _ _ => rfl) q103o0
theorem r103 : ∀ vs, tw103 vs = bodyK C103 (lkS ST103) Try.f103 (sig 103) c103 (fillAs A103 0 vs) := fun vs => by kernel_rfl
theorem ok103 : OkS sig (Gd G dep (dep 103)) 103 th103 := fun xs q h => body_ok Try.func103 (c := c103) rfl A103 tw103 (sums_of (C := C103) (t := ST103) ⟨sum_in (c' := .loop b103o0) (by kernel_rfl) (o103o0), trivial⟩) r103 (by rw [← tpw103]; exact opt_gOf h)
noncomputable def C135 : Ctx := ⟨Try.prog, sig, Gd G dep (dep 135), (sig 135).keep, (sig 135).ord⟩
noncomputable def c135 : Code := Try.f135.body.getD .skip
def T135o0 : TSt := ⟨[.pv [.i .i64, .l] 0, dI, dI, dI, dI, .own 832, .any, .any, .own 832, dI, dI, .any, .any], [(832, .row 3 1)]⟩
def X135o0e1 : TSt := ⟨[.pv [.i .i64, .l] 0, dI, dI, dI, dI, .own 832, .any, .any, .own 832, dI, dI, dB, .any], [(832, .row 3 1)]⟩
def L135o0 (m : Nat) (vs : List Vr) (K : Cont (List DV × List (List D))) : Rs := la135o0 tu100 tu132 (vI vs 0) (vL vs 1) (vI vs 2) (vI vs 3) (vI vs 4) (vI vs 8) (vL vs 12) (fun n41 v42 v43 n44 b45 v46 => K (.exit 0) (fillS X135o0e1 [.i (vI vs 0), .l (vL vs 1), .i (vI vs 2), .i (vI vs 3), .i (vI vs 4), .i (n41), .v (v42), .v (v43), .i (vI vs 8), .i (n44), .b (b45), .v (v46), .l (vL vs 12)])) m (vI vs 5) (vV vs 6) (vV vs 7) (vI vs 9) (vV vs 10) (vV vs 11)
def ST135 : List (Nat × (St → Cont (List DV × List (List D)) → Rs)) := [(0, sumT T135o0 (L135o0 KK))]
noncomputable def b135o0 : Code := match nodeAt c135 0 with | some (.loop a) => a | _ => .skip
theorem q135o0 : ∀ m vs K, L135o0 (m + 1) vs K = denK C135 (lkS ST135) b135o0 1 (fillS T135o0 vs) (loopK T135o0 (L135o0 m) K) := fun m vs K => by kernel_rfl
theorem o135o0 : SumOk C135 KK (sumT T135o0 (L135o0 KK)) (.loop b135o0) := loop_ok T135o0 L135o0 (sums_of (t := ST135) ⟨fun _ _ h => absurd h (by decide), trivial⟩) (fun _ _ => rfl) q135o0
theorem r135 : ∀ vs, tw135 vs = bodyK C135 (lkS ST135) Try.f135 (sig 135) c135 (fillAs A135 0 vs) := fun vs => by kernel_rfl
theorem ok135 : OkS sig (Gd G dep (dep 135)) 135 th135 := fun xs q h => body_ok Try.func135 (c := c135) rfl A135 tw135 (sums_of (C := C135) (t := ST135) ⟨sum_in (c' := .loop b135o0) (by kernel_rfl) (o135o0), trivial⟩) r135 (by rw [← tpw135]; exact opt_gOf h)
noncomputable def C105 : Ctx := ⟨Try.prog, sig, Gd G dep (dep 105), (sig 105).keep, (sig 105).ord⟩
noncomputable def c105 : Code := Try.f105.body.getD .skip
def ST105 : List (Nat × (St → Cont (List DV × List (List D)) → Rs)) := []
theorem r105 : ∀ vs, tw105 vs = bodyK C105 (lkS ST105) Try.f105 (sig 105) c105 (fillAs A105 0 vs) := fun vs => by kernel_rfl
theorem ok105 : OkS sig (Gd G dep (dep 105)) 105 th105 := fun xs q h => body_ok Try.func105 (c := c105) rfl A105 tw105 (sums_of (C := C105) (t := ST105) trivial) r105 (by rw [← tpw105]; exact opt_gOf h)
noncomputable def C134 : Ctx := ⟨Try.prog, sig, Gd G dep (dep 134), (sig 134).keep, (sig 134).ord⟩
noncomputable def c134 : Code := Try.f134.body.getD .skip
def T134o0 : TSt := ⟨[dL, .fb 105 [.i .i64, .l], dI, .any, dI, dI, .any, .any], []⟩
def X134o0e1 : TSt := ⟨[dL, .fb 105 [.i .i64, .l], dI, dI, dI, dI, dB, dB], []⟩
def X134o0e2 : TSt := ⟨[dL, .fb 105 [.i .i64, .l], dI, .any, dI, dI, dB, .any], []⟩
def L134o0 (m : Nat) (vs : List Vr) (K : Cont (List DV × List (List D))) : Rs := la134o0 tu105 (vL vs 0) (vI vs 1) (vL vs 2) (vI vs 3) (vI vs 5) (fun n28 b29 b30 => K .ret (fillS X134o0e1 [.l (vL vs 0), .i (vI vs 1), .l (vL vs 2), .i (n28), .i (n28), .i (vI vs 5), .i (n28), .b (b29), .b (b30)])) (fun v31 n32 b33 v34 => K (.exit 0) (fillS X134o0e2 [.l (vL vs 0), .i (vI vs 1), .l (vL vs 2), .i (vI vs 3), .v (v31), .i (vI vs 5), .i (n32), .b (b33), .v (v34)])) m (vV vs 4) (vI vs 6) (vV vs 7) (vV vs 8)
def ST134 : List (Nat × (St → Cont (List DV × List (List D)) → Rs)) := [(0, sumT T134o0 (L134o0 KK))]
noncomputable def b134o0 : Code := match nodeAt c134 0 with | some (.loop a) => a | _ => .skip
theorem q134o0 : ∀ m vs K, L134o0 (m + 1) vs K = denK C134 (lkS ST134) b134o0 1 (fillS T134o0 vs) (loopK T134o0 (L134o0 m) K) := fun m vs K => by kernel_rfl
theorem o134o0 : SumOk C134 KK (sumT T134o0 (L134o0 KK)) (.loop b134o0) := loop_ok T134o0 L134o0 (sums_of (t := ST134) ⟨fun _ _ h => absurd h (by decide), trivial⟩) (fun _ _ => rfl) q134o0
theorem r134 : ∀ vs, tw134 vs = bodyK C134 (lkS ST134) Try.f134 (sig 134) c134 (fillAs A134 0 vs) := fun vs => by kernel_rfl
theorem ok134 : OkS sig (Gd G dep (dep 134)) 134 th134 := fun xs q h => body_ok Try.func134 (c := c134) rfl A134 tw134 (sums_of (C := C134) (t := ST134) ⟨sum_in (c' := .loop b134o0) (by kernel_rfl) (o134o0), trivial⟩) r134 (by rw [← tpw134]; exact opt_gOf h)
noncomputable def C104 : Ctx := ⟨Try.prog, sig, Gd G dep (dep 104), (sig 104).keep, (sig 104).ord⟩
noncomputable def c104 : Code := Try.f104.body.getD .skip
def ST104 : List (Nat × (St → Cont (List DV × List (List D)) → Rs)) := []
theorem r104 : ∀ vs, tw104 vs = bodyK C104 (lkS ST104) Try.f104 (sig 104) c104 (fillAs A104 0 vs) := fun vs => by kernel_rfl
theorem ok104 : OkS sig (Gd G dep (dep 104)) 104 th104 := fun xs q h => body_ok Try.func104 (c := c104) rfl A104 tw104 (sums_of (C := C104) (t := ST104) trivial) r104 (by rw [← tpw104]; exact opt_gOf h)
noncomputable def C66 : Ctx := ⟨Try.prog, sig, Gd G dep (dep 66), (sig 66).keep, (sig 66).ord⟩
noncomputable def c66 : Code := Try.f66.body.getD .skip
def T66o4 : TSt := ⟨[.agg [dI, dL], .ptr 64 0, dB, .any, .undef, .own 4608, .undef, dB, dL, dI, dI, dB, .any, dL, dI, dI, .any, .any], [(64, .box [dI, dL]), (4608, .row 3 1)]⟩
def X66o4e1 : TSt := ⟨[.agg [dI, dL], .ptr 64 0, dB, .any, .undef, .own 4608, .ptr 448 0, dB, dL, dI, dI, dB, .any, dL, dI, dI, dB, dB], [(64, .box [dI, dL]), (448, .box [dI, dI, dI, dI, dI, dS, dL, dI, dI]), (4608, .row 3 1)]⟩
def X66o4e2 : TSt := ⟨[.agg [dI, dL], .ptr 64 0, dB, .any, .undef, .own 4608, .undef, dB, dL, dI, dI, dB, .any, dL, dI, dI, dB, .any], [(64, .box [dI, dL]), (4608, .row 3 1)]⟩
def L66o4 (m : Nat) (vs : List Vr) (K : Cont (List DV × List (List D))) : Rs := la66o4 tu63 tu99 tu100 tu101 tu102 tu103 tu104 (vI vs 0) (vL vs 1) (vB vs 2) (vB vs 4) (vL vs 5) (vI vs 6) (vI vs 7) (vB vs 8) (vL vs 10) (vI vs 11) (vI vs 15) (vL vs 16) (vL vs 17) (fun v120 v121 n122 b123 b124 n125 n126 n127 n128 n129 s130 l131 n132 n133 => K .ret (fillS X66o4e1 [.i (vI vs 0), .l (vL vs 1), .b (false), .v (v120), .b (vB vs 4), .l (vL vs 5), .i (vI vs 6), .i (vI vs 7), .b (vB vs 8), .v (v121), .l (vL vs 10), .i (vI vs 11), .i (n122), .b (b123), .b (b124), .i (vI vs 15), .l (vL vs 16), .i (n125), .i (n126), .i (n127), .i (n128), .i (n129), .s (s130), .l (l131), .i (n132), .i (n133), .l (vL vs 17)])) (fun v134 v135 n136 b137 v138 => K (.exit 2) (fillS X66o4e2 [.i (vI vs 0), .l (vL vs 1), .b (vB vs 2), .v (v134), .b (vB vs 4), .l (vL vs 5), .i (vI vs 6), .i (vI vs 7), .b (vB vs 8), .v (v135), .l (vL vs 10), .i (vI vs 11), .i (n136), .b (b137), .v (v138), .i (vI vs 15), .l (vL vs 16), .l (vL vs 17)])) m (vV vs 3) (vV vs 9) (vI vs 12) (vV vs 13) (vV vs 14)
def T66o1 : TSt := ⟨[.agg [dI, dL], .ptr 64 0, dB, .any, .undef, .undef, .undef, dB, dL, dI, dI, .any, .any, .undef, .undef, .undef, .undef, .undef], [(64, .box [dI, dL])]⟩
def X66o1e1 : TSt := ⟨[.agg [dI, dL], .ptr 64 0, dB, dI, .ptr 256 0, .undef, .undef, dB, dL, dI, dI, dB, dB, .undef, .undef, .undef, .undef, .undef], [(64, .box [dI, dL]), (256, .box [dI, dI, dI, dI, dI, dS, dL, dI, dI])]⟩
def X66o1e2 : TSt := ⟨[.agg [dI, dL], .ptr 64 0, dB, .any, .undef, .undef, .undef, dB, dL, dI, dI, dB, .any, .undef, .undef, .undef, .undef, .undef], [(64, .box [dI, dL])]⟩
def L66o1 (m : Nat) (vs : List Vr) (K : Cont (List DV × List (List D))) : Rs := la66o1 tu63 tu99 tu100 tu101 tu102 tu103 tu104 (vI vs 0) (vL vs 1) (vB vs 2) (vB vs 4) (vL vs 5) (vI vs 6) (vI vs 10) (vL vs 11) (fun n36 b37 b38 n39 n40 n41 n42 n43 s44 l45 n46 n47 => K .ret (fillS X66o1e1 [.i (vI vs 0), .l (vL vs 1), .b (false), .i (n36), .b (vB vs 4), .l (vL vs 5), .i (vI vs 6), .i (n36), .b (b37), .b (b38), .i (vI vs 10), .l (vL vs 11), .i (n39), .i (n40), .i (n41), .i (n42), .i (n43), .s (s44), .l (l45), .i (n46), .i (n47)])) (fun v48 n49 b50 v51 => K (.exit 0) (fillS X66o1e2 [.i (vI vs 0), .l (vL vs 1), .b (vB vs 2), .v (v48), .b (vB vs 4), .l (vL vs 5), .i (vI vs 6), .i (n49), .b (b50), .v (v51), .i (vI vs 10), .l (vL vs 11)])) m (vV vs 3) (vI vs 7) (vV vs 8) (vV vs 9)
def ST66 : List (Nat × (St → Cont (List DV × List (List D)) → Rs)) := [(4, sumT T66o4 (L66o4 KK)), (1, sumT T66o1 (L66o1 KK))]
noncomputable def b66o4 : Code := match nodeAt c66 4 with | some (.loop a) => a | _ => .skip
noncomputable def b66o1 : Code := match nodeAt c66 1 with | some (.loop a) => a | _ => .skip
theorem q66o4 : ∀ m vs K, L66o4 (m + 1) vs K = denK C66 (lkS ST66) b66o4 5 (fillS T66o4 vs) (loopK T66o4 (L66o4 m) K) := fun m vs K => by kernel_rfl
theorem o66o4 : SumOk C66 KK (sumT T66o4 (L66o4 KK)) (.loop b66o4) := loop_ok T66o4 L66o4 (sums_of (t := ST66) ⟨fun _ _ h => absurd h (by decide), fun _ _ h => absurd h (by decide), trivial⟩) (fun _ _ => rfl) q66o4
theorem q66o1 : ∀ m vs K, L66o1 (m + 1) vs K = denK C66 (lkS ST66) b66o1 2 (fillS T66o1 vs) (loopK T66o1 (L66o1 m) K) := fun m vs K => by kernel_rfl
theorem o66o1 : SumOk C66 KK (sumT T66o1 (L66o1 KK)) (.loop b66o1) := loop_ok T66o1 L66o1 (sums_of (t := ST66) ⟨sum_out (by kernel_rfl), fun _ _ h => absurd h (by decide), trivial⟩) (fun _ _ => rfl) q66o1
theorem r66 : ∀ vs, tw66 vs = bodyK C66 (lkS ST66) Try.f66 (sig 66) c66 (fillAs A66 0 vs) := fun vs => by kernel_rfl
theorem ok66 : OkS sig (Gd G dep (dep 66)) 66 th66 := fun xs q h => body_ok Try.func66 (c := c66) rfl A66 tw66 (sums_of (C := C66) (t := ST66) ⟨sum_in (c' := .loop b66o4) (by kernel_rfl) (o66o4), sum_in (c' := .loop b66o1) (by kernel_rfl) (o66o1), trivial⟩) r66 (by rw [← tpw66]; exact opt_gOf h)
noncomputable def C25 : Ctx := ⟨Try.prog, sig, Gd G dep (dep 25), (sig 25).keep, (sig 25).ord⟩
noncomputable def c25 : Code := Try.f25.body.getD .skip
def T25o0 : TSt := ⟨[.agg [dI, dL, dI, dL, dL], .ptr 64 0, dB, .any, .undef, dL, dI, dI, .any, .any], [(64, .box [dI, dL, dI, dL, dL])]⟩
def X25o0e1 : TSt := ⟨[.agg [dI, dL, dI, dL, dL], .ptr 64 0, dB, dI, .ptr 256 0, dL, dI, dI, dB, dB], [(64, .box [dI, dL, dI, dL, dL]), (256, .box [dI, dI, dI, dI, dS])]⟩
def X25o0e2 : TSt := ⟨[.agg [dI, dL, dI, dL, dL], .ptr 64 0, dB, .any, .undef, dL, dI, dI, dB, .any], [(64, .box [dI, dL, dI, dL, dL])]⟩
def L25o0 (m : Nat) (vs : List Vr) (K : Cont (List DV × List (List D))) : Rs := la25o0 tu63 tu64 tu65 tu66 (vI vs 0) (vL vs 1) (vI vs 2) (vL vs 3) (vL vs 4) (vB vs 5) (vL vs 7) (vI vs 8) (vI vs 12) (vL vs 13) (vI vs 14) (vL vs 15) (vL vs 16) (fun n54 b55 b56 n57 n58 n59 n60 s61 => K .ret (fillS X25o0e1 [.i (vI vs 0), .l (vL vs 1), .i (vI vs 2), .l (vL vs 3), .l (vL vs 4), .b (false), .i (n54), .l (vL vs 7), .i (vI vs 8), .i (n54), .b (b55), .b (b56), .i (vI vs 12), .l (vL vs 13), .i (vI vs 14), .l (vL vs 15), .l (vL vs 16), .i (n57), .i (n58), .i (n59), .i (n60), .s (s61)])) (fun v62 n63 b64 v65 => K (.exit 0) (fillS X25o0e2 [.i (vI vs 0), .l (vL vs 1), .i (vI vs 2), .l (vL vs 3), .l (vL vs 4), .b (vB vs 5), .v (v62), .l (vL vs 7), .i (vI vs 8), .i (n63), .b (b64), .v (v65), .i (vI vs 12), .l (vL vs 13), .i (vI vs 14), .l (vL vs 15), .l (vL vs 16)])) m (vV vs 6) (vI vs 9) (vV vs 10) (vV vs 11)
def ST25 : List (Nat × (St → Cont (List DV × List (List D)) → Rs)) := [(0, sumT T25o0 (L25o0 KK))]
noncomputable def b25o0 : Code := match nodeAt c25 0 with | some (.loop a) => a | _ => .skip
theorem q25o0 : ∀ m vs K, L25o0 (m + 1) vs K = denK C25 (lkS ST25) b25o0 1 (fillS T25o0 vs) (loopK T25o0 (L25o0 m) K) := fun m vs K => by kernel_rfl
theorem o25o0 : SumOk C25 KK (sumT T25o0 (L25o0 KK)) (.loop b25o0) := loop_ok T25o0 L25o0 (sums_of (t := ST25) ⟨fun _ _ h => absurd h (by decide), trivial⟩) (fun _ _ => rfl) q25o0
theorem r25 : ∀ vs, tw25 vs = bodyK C25 (lkS ST25) Try.f25 (sig 25) c25 (fillAs A25 0 vs) := fun vs => by kernel_rfl
theorem ok25 : OkS sig (Gd G dep (dep 25)) 25 th25 := fun xs q h => body_ok Try.func25 (c := c25) rfl A25 tw25 (sums_of (C := C25) (t := ST25) ⟨sum_in (c' := .loop b25o0) (by kernel_rfl) (o25o0), trivial⟩) r25 (by rw [← tpw25]; exact opt_gOf h)
noncomputable def C29 : Ctx := ⟨Try.prog, sig, Gd G dep (dep 29), (sig 29).keep, (sig 29).ord⟩
noncomputable def c29 : Code := Try.f29.body.getD .skip
def T29o0 : TSt := ⟨[dL, dB, .undef, dL, dI, dI, .any, .any], []⟩
def X29o0e1 : TSt := ⟨[dL, dB, .ptr 256 0, dL, dI, dI, dB, dB], [(256, .box [dI, dL, dI, dL, dL])]⟩
def X29o0e2 : TSt := ⟨[dL, dB, .undef, dL, dI, dI, dB, .any], []⟩
def L29o0 (m : Nat) (vs : List Vr) (K : Cont (List DV × List (List D))) : Rs := la29o0 tu25 (vL vs 0) (vB vs 1) (vL vs 2) (vI vs 3) (fun n21 b22 b23 n24 l25 n26 l27 l28 => K .ret (fillS X29o0e1 [.l (vL vs 0), .b (false), .l (vL vs 2), .i (vI vs 3), .i (n21), .b (b22), .b (b23), .i (n24), .l (l25), .i (n26), .l (l27), .l (l28)])) (fun n29 b30 v31 => K (.exit 0) (fillS X29o0e2 [.l (vL vs 0), .b (vB vs 1), .l (vL vs 2), .i (vI vs 3), .i (n29), .b (b30), .v (v31)])) m (vI vs 4) (vV vs 5) (vV vs 6)
def ST29 : List (Nat × (St → Cont (List DV × List (List D)) → Rs)) := [(0, sumT T29o0 (L29o0 KK))]
noncomputable def b29o0 : Code := match nodeAt c29 0 with | some (.loop a) => a | _ => .skip
theorem q29o0 : ∀ m vs K, L29o0 (m + 1) vs K = denK C29 (lkS ST29) b29o0 1 (fillS T29o0 vs) (loopK T29o0 (L29o0 m) K) := fun m vs K => by kernel_rfl
theorem o29o0 : SumOk C29 KK (sumT T29o0 (L29o0 KK)) (.loop b29o0) := loop_ok T29o0 L29o0 (sums_of (t := ST29) ⟨fun _ _ h => absurd h (by decide), trivial⟩) (fun _ _ => rfl) q29o0
theorem r29 : ∀ vs, tw29 vs = bodyK C29 (lkS ST29) Try.f29 (sig 29) c29 (fillAs A29 0 vs) := fun vs => by kernel_rfl
theorem ok29 : OkS sig (Gd G dep (dep 29)) 29 th29 := fun xs q h => body_ok Try.func29 (c := c29) rfl A29 tw29 (sums_of (C := C29) (t := ST29) ⟨sum_in (c' := .loop b29o0) (by kernel_rfl) (o29o0), trivial⟩) r29 (by rw [← tpw29]; exact opt_gOf h)
noncomputable def C109 : Ctx := ⟨Try.prog, sig, Gd G dep (dep 109), (sig 109).keep, (sig 109).ord⟩
noncomputable def c109 : Code := Try.f109.body.getD .skip
def T109o1 : TSt := ⟨[dI, dS, .own 448, dB, .any], [(448, .row 5 1)]⟩
def X109o1e1 : TSt := ⟨[dI, dS, .own 448, dB, dB], [(448, .row 5 1)]⟩
def L109o1 (m : Nat) (vs : List Vr) (K : Cont (List DV × List (List D))) : Rs := la109o1 tu63 (vS vs 1) (vB vs 2) (fun n16 b17 l18 => K (.exit 0) (fillS X109o1e1 [.i (n16), .s (vS vs 1), .b (vB vs 2), .b (b17), .l (l18)])) m (vI vs 0) (vV vs 3) (vL vs 4)
def ST109 : List (Nat × (St → Cont (List DV × List (List D)) → Rs)) := [(1, sumT T109o1 (L109o1 KK))]
noncomputable def b109o1 : Code := match nodeAt c109 1 with | some (.loop a) => a | _ => .skip
theorem q109o1 : ∀ m vs K, L109o1 (m + 1) vs K = denK C109 (lkS ST109) b109o1 2 (fillS T109o1 vs) (loopK T109o1 (L109o1 m) K) := fun m vs K => by kernel_rfl
theorem o109o1 : SumOk C109 KK (sumT T109o1 (L109o1 KK)) (.loop b109o1) := loop_ok T109o1 L109o1 (sums_of (t := ST109) ⟨fun _ _ h => absurd h (by decide), trivial⟩) (fun _ _ => rfl) q109o1
theorem r109 : ∀ vs, tw109 vs = bodyK C109 (lkS ST109) Try.f109 (sig 109) c109 (fillAs A109 0 vs) := fun vs => by kernel_rfl
theorem ok109 : OkS sig (Gd G dep (dep 109)) 109 th109 := fun xs q h => body_ok Try.func109 (c := c109) rfl A109 tw109 (sums_of (C := C109) (t := ST109) ⟨sum_in (c' := .loop b109o1) (by kernel_rfl) (o109o1), trivial⟩) r109 (by rw [← tpw109]; exact opt_gOf h)
noncomputable def C108 : Ctx := ⟨Try.prog, sig, Gd G dep (dep 108), (sig 108).keep, (sig 108).ord⟩
noncomputable def c108 : Code := Try.f108.body.getD .skip
def T108o0 : TSt := ⟨[dL, dS, dS, .any, dL, dI, dI, .any], []⟩
def X108o0e1 : TSt := ⟨[dL, dS, dS, .any, dL, dI, dI, dB], []⟩
def L108o0 (m : Nat) (vs : List Vr) (K : Cont (List DV × List (List D))) : Rs := la108o0 tu109 (vL vs 0) (vS vs 1) (vL vs 4) (vI vs 5) (fun s24 v25 n26 b27 => K (.exit 0) (fillS X108o0e1 [.l (vL vs 0), .s (vS vs 1), .s (s24), .v (v25), .l (vL vs 4), .i (vI vs 5), .i (n26), .b (b27)])) m (vS vs 2) (vV vs 3) (vI vs 6) (vV vs 7)
def ST108 : List (Nat × (St → Cont (List DV × List (List D)) → Rs)) := [(0, sumT T108o0 (L108o0 KK))]
noncomputable def b108o0 : Code := match nodeAt c108 0 with | some (.loop a) => a | _ => .skip
theorem q108o0 : ∀ m vs K, L108o0 (m + 1) vs K = denK C108 (lkS ST108) b108o0 1 (fillS T108o0 vs) (loopK T108o0 (L108o0 m) K) := fun m vs K => by kernel_rfl
theorem o108o0 : SumOk C108 KK (sumT T108o0 (L108o0 KK)) (.loop b108o0) := loop_ok T108o0 L108o0 (sums_of (t := ST108) ⟨fun _ _ h => absurd h (by decide), trivial⟩) (fun _ _ => rfl) q108o0
theorem r108 : ∀ vs, tw108 vs = bodyK C108 (lkS ST108) Try.f108 (sig 108) c108 (fillAs A108 0 vs) := fun vs => by kernel_rfl
theorem ok108 : OkS sig (Gd G dep (dep 108)) 108 th108 := fun xs q h => body_ok Try.func108 (c := c108) rfl A108 tw108 (sums_of (C := C108) (t := ST108) ⟨sum_in (c' := .loop b108o0) (by kernel_rfl) (o108o0), trivial⟩) r108 (by rw [← tpw108]; exact opt_gOf h)
noncomputable def C106 : Ctx := ⟨Try.prog, sig, Gd G dep (dep 106), (sig 106).keep, (sig 106).ord⟩
noncomputable def c106 : Code := Try.f106.body.getD .skip
def ST106 : List (Nat × (St → Cont (List DV × List (List D)) → Rs)) := []
theorem r106 : ∀ vs, tw106 vs = bodyK C106 (lkS ST106) Try.f106 (sig 106) c106 (fillAs A106 0 vs) := fun vs => by kernel_rfl
theorem ok106 : OkS sig (Gd G dep (dep 106)) 106 th106 := fun xs q h => body_ok Try.func106 (c := c106) rfl A106 tw106 (sums_of (C := C106) (t := ST106) trivial) r106 (by rw [← tpw106]; exact opt_gOf h)
noncomputable def C107 : Ctx := ⟨Try.prog, sig, Gd G dep (dep 107), (sig 107).keep, (sig 107).ord⟩
noncomputable def c107 : Code := Try.f107.body.getD .skip
def T107o2 : TSt := ⟨[.agg [dI, dL], .ptr 64 0, dS, dS, .ptr 320 0, .undef, dL, dI, dI, dB, dL, dI, dI, .any], [(64, .box [dI, dL]), (320, .box [dI, dI, dI, dI, dI, dS, dL, dI, dI]), (832, .row 3 1), (2368, .row 3 1)]⟩
def X107o2e1 : TSt := ⟨[.agg [dI, dL], .ptr 64 0, dS, dS, .ptr 320 0, .undef, dL, dI, dI, dB, dL, dI, dI, dB], [(64, .box [dI, dL]), (320, .box [dI, dI, dI, dI, dI, dS, dL, dI, dI]), (832, .row 3 1), (2368, .row 3 1)]⟩
def L107o2 (m : Nat) (vs : List Vr) (K : Cont (List DV × List (List D))) : Rs := la107o2 tu106 tu108 tu109 (vI vs 0) (vL vs 1) (vS vs 2) (vL vs 4) (vI vs 5) (vI vs 6) (vB vs 7) (vL vs 8) (vI vs 9) (vI vs 12) (vL vs 13) (vI vs 14) (vI vs 15) (vI vs 16) (vI vs 17) (vI vs 18) (vS vs 19) (vL vs 20) (vI vs 21) (vI vs 22) (vL vs 23) (vL vs 24) (fun s183 n184 b185 => K (.exit 2) (fillS X107o2e1 [.i (vI vs 0), .l (vL vs 1), .s (vS vs 2), .s (s183), .l (vL vs 4), .i (vI vs 5), .i (vI vs 6), .b (vB vs 7), .l (vL vs 8), .i (vI vs 9), .i (n184), .b (b185), .i (vI vs 12), .l (vL vs 13), .i (vI vs 14), .i (vI vs 15), .i (vI vs 16), .i (vI vs 17), .i (vI vs 18), .s (vS vs 19), .l (vL vs 20), .i (vI vs 21), .i (vI vs 22), .l (vL vs 23), .l (vL vs 24)])) m (vS vs 3) (vI vs 10) (vV vs 11)
def T107o0 : TSt := ⟨[.agg [dI, dL], .ptr 64 0, dS, dS, .undef, .undef, dL, dI, dI, .any, .any, .any, .any, .any], [(64, .box [dI, dL]), (832, .row 3 1)]⟩
def X107o0e1 : TSt := ⟨[.agg [dI, dL], .ptr 64 0, dS, dS, .undef, .undef, dL, dI, dI, dB, .any, .any, .any, .any], [(64, .box [dI, dL]), (832, .row 3 1)]⟩
def L107o0 (m : Nat) (vs : List Vr) (K : Cont (List DV × List (List D))) : Rs := la107o0 tu106 tu108 tu109 (vI vs 0) (vL vs 1) (vS vs 2) (vL vs 4) (vI vs 5) (vI vs 12) (vL vs 13) (vL vs 14) (fun s204 n205 b206 v207 v208 v209 v210 => K (.exit 0) (fillS X107o0e1 [.i (vI vs 0), .l (vL vs 1), .s (vS vs 2), .s (s204), .l (vL vs 4), .i (vI vs 5), .i (n205), .b (b206), .v (v207), .v (v208), .v (v209), .v (v210), .i (vI vs 12), .l (vL vs 13), .l (vL vs 14)])) m (vS vs 3) (vI vs 6) (vV vs 7) (vV vs 8) (vV vs 9) (vV vs 10) (vV vs 11)
def ST107 : List (Nat × (St → Cont (List DV × List (List D)) → Rs)) := [(2, sumT T107o2 (L107o2 KK)), (0, sumT T107o0 (L107o0 KK))]
noncomputable def b107o2 : Code := match nodeAt c107 2 with | some (.loop a) => a | _ => .skip
noncomputable def b107o0 : Code := match nodeAt c107 0 with | some (.loop a) => a | _ => .skip
theorem q107o2 : ∀ m vs K, L107o2 (m + 1) vs K = denK C107 (lkS ST107) b107o2 3 (fillS T107o2 vs) (loopK T107o2 (L107o2 m) K) := fun m vs K => by kernel_rfl
theorem o107o2 : SumOk C107 KK (sumT T107o2 (L107o2 KK)) (.loop b107o2) := loop_ok T107o2 L107o2 (sums_of (t := ST107) ⟨fun _ _ h => absurd h (by decide), fun _ _ h => absurd h (by decide), trivial⟩) (fun _ _ => rfl) q107o2
theorem q107o0 : ∀ m vs K, L107o0 (m + 1) vs K = denK C107 (lkS ST107) b107o0 1 (fillS T107o0 vs) (loopK T107o0 (L107o0 m) K) := fun m vs K => by kernel_rfl
theorem o107o0 : SumOk C107 KK (sumT T107o0 (L107o0 KK)) (.loop b107o0) := loop_ok T107o0 L107o0 (sums_of (t := ST107) ⟨sum_in (c' := .loop b107o2) (by kernel_rfl) (o107o2), fun _ _ h => absurd h (by decide), trivial⟩) (fun _ _ => rfl) q107o0
theorem r107 : ∀ vs, tw107 vs = bodyK C107 (lkS ST107) Try.f107 (sig 107) c107 (fillAs A107 0 vs) := fun vs => by kernel_rfl
theorem ok107 : OkS sig (Gd G dep (dep 107)) 107 th107 := fun xs q h => body_ok Try.func107 (c := c107) rfl A107 tw107 (sums_of (C := C107) (t := ST107) ⟨sum_in (c' := .loop b107o2) (by kernel_rfl) (o107o2), sum_in (c' := .loop b107o0) (by kernel_rfl) (o107o0), trivial⟩) r107 (by rw [← tpw107]; exact opt_gOf h)
noncomputable def C110 : Ctx := ⟨Try.prog, sig, Gd G dep (dep 110), (sig 110).keep, (sig 110).ord⟩
noncomputable def c110 : Code := Try.f110.body.getD .skip
def ST110 : List (Nat × (St → Cont (List DV × List (List D)) → Rs)) := []
theorem r110 : ∀ vs, tw110 vs = bodyK C110 (lkS ST110) Try.f110 (sig 110) c110 (fillAs A110 0 vs) := fun vs => by kernel_rfl
theorem ok110 : OkS sig (Gd G dep (dep 110)) 110 th110 := fun xs q h => body_ok Try.func110 (c := c110) rfl A110 tw110 (sums_of (C := C110) (t := ST110) trivial) r110 (by rw [← tpw110]; exact opt_gOf h)
noncomputable def C71 : Ctx := ⟨Try.prog, sig, Gd G dep (dep 71), (sig 71).keep, (sig 71).ord⟩
noncomputable def c71 : Code := Try.f71.body.getD .skip
def T71o2 : TSt := ⟨[.agg [dI, dL, dI, dL, dL], .ptr 64 0, dS, dS, .undef, .undef, dL, dI, dI, dB, dL, dI, dI, .any], [(64, .box [dI, dL, dI, dL, dL]), (1088, .row 3 1)]⟩
def X71o2e1 : TSt := ⟨[.agg [dI, dL, dI, dL, dL], .ptr 64 0, dS, dS, .undef, .undef, dL, dI, dI, dB, dL, dI, dI, dB], [(64, .box [dI, dL, dI, dL, dL]), (1088, .row 3 1)]⟩
def L71o2 (m : Nat) (vs : List Vr) (K : Cont (List DV × List (List D))) : Rs := la71o2 tu106 tu107 tu108 tu109 tu110 (vI vs 0) (vL vs 1) (vI vs 2) (vL vs 3) (vL vs 4) (vS vs 5) (vL vs 7) (vI vs 8) (vI vs 9) (vB vs 10) (vL vs 11) (vI vs 12) (vI vs 15) (vL vs 16) (vI vs 17) (vL vs 18) (vL vs 19) (vL vs 20) (fun s124 n125 b126 => K (.exit 2) (fillS X71o2e1 [.i (vI vs 0), .l (vL vs 1), .i (vI vs 2), .l (vL vs 3), .l (vL vs 4), .s (vS vs 5), .s (s124), .l (vL vs 7), .i (vI vs 8), .i (vI vs 9), .b (vB vs 10), .l (vL vs 11), .i (vI vs 12), .i (n125), .b (b126), .i (vI vs 15), .l (vL vs 16), .i (vI vs 17), .l (vL vs 18), .l (vL vs 19), .l (vL vs 20)])) m (vS vs 6) (vI vs 13) (vV vs 14)
def T71o0 : TSt := ⟨[.agg [dI, dL, dI, dL, dL], .ptr 64 0, dS, dS, .undef, .undef, dL, dI, dI, .any, .undef, .undef, .undef, .undef], [(64, .box [dI, dL, dI, dL, dL]), (1088, .row 3 1)]⟩
def X71o0e1 : TSt := ⟨[.agg [dI, dL, dI, dL, dL], .ptr 64 0, dS, dS, .undef, .undef, dL, dI, dI, dB, .undef, .undef, .undef, .undef], [(64, .box [dI, dL, dI, dL, dL]), (1088, .row 3 1)]⟩
def L71o0 (m : Nat) (vs : List Vr) (K : Cont (List DV × List (List D))) : Rs := la71o0 tu106 tu107 tu108 tu109 tu110 (vI vs 0) (vL vs 1) (vI vs 2) (vL vs 3) (vL vs 4) (vS vs 5) (vL vs 7) (vI vs 8) (vI vs 11) (vL vs 12) (vI vs 13) (vL vs 14) (vL vs 15) (vL vs 16) (fun s56 n57 b58 => K (.exit 0) (fillS X71o0e1 [.i (vI vs 0), .l (vL vs 1), .i (vI vs 2), .l (vL vs 3), .l (vL vs 4), .s (vS vs 5), .s (s56), .l (vL vs 7), .i (vI vs 8), .i (n57), .b (b58), .i (vI vs 11), .l (vL vs 12), .i (vI vs 13), .l (vL vs 14), .l (vL vs 15), .l (vL vs 16)])) m (vS vs 6) (vI vs 9) (vV vs 10)
def ST71 : List (Nat × (St → Cont (List DV × List (List D)) → Rs)) := [(2, sumT T71o2 (L71o2 KK)), (0, sumT T71o0 (L71o0 KK))]
noncomputable def b71o2 : Code := match nodeAt c71 2 with | some (.loop a) => a | _ => .skip
noncomputable def b71o0 : Code := match nodeAt c71 0 with | some (.loop a) => a | _ => .skip
theorem q71o2 : ∀ m vs K, L71o2 (m + 1) vs K = denK C71 (lkS ST71) b71o2 3 (fillS T71o2 vs) (loopK T71o2 (L71o2 m) K) := fun m vs K => by kernel_rfl
theorem o71o2 : SumOk C71 KK (sumT T71o2 (L71o2 KK)) (.loop b71o2) := loop_ok T71o2 L71o2 (sums_of (t := ST71) ⟨fun _ _ h => absurd h (by decide), fun _ _ h => absurd h (by decide), trivial⟩) (fun _ _ => rfl) q71o2
theorem q71o0 : ∀ m vs K, L71o0 (m + 1) vs K = denK C71 (lkS ST71) b71o0 1 (fillS T71o0 vs) (loopK T71o0 (L71o0 m) K) := fun m vs K => by kernel_rfl
theorem o71o0 : SumOk C71 KK (sumT T71o0 (L71o0 KK)) (.loop b71o0) := loop_ok T71o0 L71o0 (sums_of (t := ST71) ⟨sum_out (by kernel_rfl), fun _ _ h => absurd h (by decide), trivial⟩) (fun _ _ => rfl) q71o0
theorem r71 : ∀ vs, tw71 vs = bodyK C71 (lkS ST71) Try.f71 (sig 71) c71 (fillAs A71 0 vs) := fun vs => by kernel_rfl
theorem ok71 : OkS sig (Gd G dep (dep 71)) 71 th71 := fun xs q h => body_ok Try.func71 (c := c71) rfl A71 tw71 (sums_of (C := C71) (t := ST71) ⟨sum_in (c' := .loop b71o2) (by kernel_rfl) (o71o2), sum_in (c' := .loop b71o0) (by kernel_rfl) (o71o0), trivial⟩) r71 (by rw [← tpw71]; exact opt_gOf h)
noncomputable def C72 : Ctx := ⟨Try.prog, sig, Gd G dep (dep 72), (sig 72).keep, (sig 72).ord⟩
noncomputable def c72 : Code := Try.f72.body.getD .skip
def T72o0 : TSt := ⟨[dL, dS, dS, .undef, dL, dI, dI, .any], []⟩
def X72o0e1 : TSt := ⟨[dL, dS, dS, .undef, dL, dI, dI, dB], []⟩
def L72o0 (m : Nat) (vs : List Vr) (K : Cont (List DV × List (List D))) : Rs := la72o0 tu71 tu106 (vL vs 0) (vS vs 1) (vL vs 3) (vI vs 4) (fun s22 n23 b24 => K (.exit 0) (fillS X72o0e1 [.l (vL vs 0), .s (vS vs 1), .s (s22), .l (vL vs 3), .i (vI vs 4), .i (n23), .b (b24)])) m (vS vs 2) (vI vs 5) (vV vs 6)
def ST72 : List (Nat × (St → Cont (List DV × List (List D)) → Rs)) := [(0, sumT T72o0 (L72o0 KK))]
noncomputable def b72o0 : Code := match nodeAt c72 0 with | some (.loop a) => a | _ => .skip
theorem q72o0 : ∀ m vs K, L72o0 (m + 1) vs K = denK C72 (lkS ST72) b72o0 1 (fillS T72o0 vs) (loopK T72o0 (L72o0 m) K) := fun m vs K => by kernel_rfl
theorem o72o0 : SumOk C72 KK (sumT T72o0 (L72o0 KK)) (.loop b72o0) := loop_ok T72o0 L72o0 (sums_of (t := ST72) ⟨fun _ _ h => absurd h (by decide), trivial⟩) (fun _ _ => rfl) q72o0
theorem r72 : ∀ vs, tw72 vs = bodyK C72 (lkS ST72) Try.f72 (sig 72) c72 (fillAs A72 0 vs) := fun vs => by kernel_rfl
theorem ok72 : OkS sig (Gd G dep (dep 72)) 72 th72 := fun xs q h => body_ok Try.func72 (c := c72) rfl A72 tw72 (sums_of (C := C72) (t := ST72) ⟨sum_in (c' := .loop b72o0) (by kernel_rfl) (o72o0), trivial⟩) r72 (by rw [← tpw72]; exact opt_gOf h)
noncomputable def C33 : Ctx := ⟨Try.prog, sig, Gd G dep (dep 33), (sig 33).keep, (sig 33).ord⟩
noncomputable def c33 : Code := Try.f33.body.getD .skip
def ST33 : List (Nat × (St → Cont (List DV × List (List D)) → Rs)) := []
theorem r33 : ∀ vs, tw33 vs = bodyK C33 (lkS ST33) Try.f33 (sig 33) c33 (fillAs A33 0 vs) := fun vs => by kernel_rfl
theorem ok33 : OkS sig (Gd G dep (dep 33)) 33 th33 := fun xs q h => body_ok Try.func33 (c := c33) rfl A33 tw33 (sums_of (C := C33) (t := ST33) trivial) r33 (by rw [← tpw33]; exact opt_gOf h)
noncomputable def C143 : Ctx := ⟨Try.prog, sig, Gd G dep (dep 143), (sig 143).keep, (sig 143).ord⟩
noncomputable def c143 : Code := Try.f143.body.getD .skip
def ST143 : List (Nat × (St → Cont (List DV × List (List D)) → Rs)) := []
theorem r143 : ∀ vs, tw143 vs = bodyK C143 (lkS ST143) Try.f143 (sig 143) c143 (fillAs A143 0 vs) := fun vs => by kernel_rfl
theorem ok143 : OkS sig (Gd G dep (dep 143)) 143 th143 := fun xs q h => body_ok Try.func143 (c := c143) rfl A143 tw143 (sums_of (C := C143) (t := ST143) trivial) r143 (by rw [← tpw143]; exact opt_gOf h)
noncomputable def C137 : Ctx := ⟨Try.prog, sig, Gd G dep (dep 137), (sig 137).keep, (sig 137).ord⟩
noncomputable def c137 : Code := Try.f137.body.getD .skip
def T137o1 : TSt := ⟨[dL, dL, dB, dI, dB, .any, .any], []⟩
def X137o1e1 : TSt := ⟨[dL, dL, dB, dI, dB, dB, dB], []⟩
def X137o1e2 : TSt := ⟨[dL, dL, dB, dI, dB, dB, .any], []⟩
def L137o1 (m : Nat) (vs : List Vr) (K : Cont (List DV × List (List D))) : Rs := la137o1 tu143 (vL vs 0) (vL vs 1) (vB vs 2) (vB vs 4) (fun n22 b23 b24 => K .ret (fillS X137o1e1 [.l (vL vs 0), .l (vL vs 1), .b (false), .i (n22), .b (vB vs 4), .b (b23), .b (b24)])) (fun n25 b26 v27 => K (.exit 0) (fillS X137o1e2 [.l (vL vs 0), .l (vL vs 1), .b (vB vs 2), .i (n25), .b (vB vs 4), .b (b26), .v (v27)])) m (vI vs 3) (vV vs 5) (vV vs 6)
def ST137 : List (Nat × (St → Cont (List DV × List (List D)) → Rs)) := [(1, sumT T137o1 (L137o1 KK))]
noncomputable def b137o1 : Code := match nodeAt c137 1 with | some (.loop a) => a | _ => .skip
theorem q137o1 : ∀ m vs K, L137o1 (m + 1) vs K = denK C137 (lkS ST137) b137o1 2 (fillS T137o1 vs) (loopK T137o1 (L137o1 m) K) := fun m vs K => by kernel_rfl
theorem o137o1 : SumOk C137 KK (sumT T137o1 (L137o1 KK)) (.loop b137o1) := loop_ok T137o1 L137o1 (sums_of (t := ST137) ⟨fun _ _ h => absurd h (by decide), trivial⟩) (fun _ _ => rfl) q137o1
theorem r137 : ∀ vs, tw137 vs = bodyK C137 (lkS ST137) Try.f137 (sig 137) c137 (fillAs A137 0 vs) := fun vs => by kernel_rfl
theorem ok137 : OkS sig (Gd G dep (dep 137)) 137 th137 := fun xs q h => body_ok Try.func137 (c := c137) rfl A137 tw137 (sums_of (C := C137) (t := ST137) ⟨sum_in (c' := .loop b137o1) (by kernel_rfl) (o137o1), trivial⟩) r137 (by rw [← tpw137]; exact opt_gOf h)
noncomputable def C120 : Ctx := ⟨Try.prog, sig, Gd G dep (dep 120), (sig 120).keep, (sig 120).ord⟩
noncomputable def c120 : Code := Try.f120.body.getD .skip
def ST120 : List (Nat × (St → Cont (List DV × List (List D)) → Rs)) := []
theorem r120 : ∀ vs, tw120 vs = bodyK C120 (lkS ST120) Try.f120 (sig 120) c120 (fillAs A120 0 vs) := fun vs => by kernel_rfl
theorem ok120 : OkS sig (Gd G dep (dep 120)) 120 th120 := fun xs q h => body_ok Try.func120 (c := c120) rfl A120 tw120 (sums_of (C := C120) (t := ST120) trivial) r120 (by rw [← tpw120]; exact opt_gOf h)
noncomputable def C83 : Ctx := ⟨Try.prog, sig, Gd G dep (dep 83), (sig 83).keep, (sig 83).ord⟩
noncomputable def c83 : Code := Try.f83.body.getD .skip
def T83o1 : TSt := ⟨[dL, dL, dB, dI, dB, .any, .any], []⟩
def X83o1e1 : TSt := ⟨[dL, dL, dB, dI, dB, dB, dB], []⟩
def X83o1e2 : TSt := ⟨[dL, dL, dB, dI, dB, dB, .any], []⟩
def L83o1 (m : Nat) (vs : List Vr) (K : Cont (List DV × List (List D))) : Rs := la83o1 tu120 (vL vs 0) (vL vs 1) (vB vs 2) (vB vs 4) (fun n22 b23 b24 => K .ret (fillS X83o1e1 [.l (vL vs 0), .l (vL vs 1), .b (false), .i (n22), .b (vB vs 4), .b (b23), .b (b24)])) (fun n25 b26 v27 => K (.exit 0) (fillS X83o1e2 [.l (vL vs 0), .l (vL vs 1), .b (vB vs 2), .i (n25), .b (vB vs 4), .b (b26), .v (v27)])) m (vI vs 3) (vV vs 5) (vV vs 6)
def ST83 : List (Nat × (St → Cont (List DV × List (List D)) → Rs)) := [(1, sumT T83o1 (L83o1 KK))]
noncomputable def b83o1 : Code := match nodeAt c83 1 with | some (.loop a) => a | _ => .skip
theorem q83o1 : ∀ m vs K, L83o1 (m + 1) vs K = denK C83 (lkS ST83) b83o1 2 (fillS T83o1 vs) (loopK T83o1 (L83o1 m) K) := fun m vs K => by kernel_rfl
theorem o83o1 : SumOk C83 KK (sumT T83o1 (L83o1 KK)) (.loop b83o1) := loop_ok T83o1 L83o1 (sums_of (t := ST83) ⟨fun _ _ h => absurd h (by decide), trivial⟩) (fun _ _ => rfl) q83o1
theorem r83 : ∀ vs, tw83 vs = bodyK C83 (lkS ST83) Try.f83 (sig 83) c83 (fillAs A83 0 vs) := fun vs => by kernel_rfl
theorem ok83 : OkS sig (Gd G dep (dep 83)) 83 th83 := fun xs q h => body_ok Try.func83 (c := c83) rfl A83 tw83 (sums_of (C := C83) (t := ST83) ⟨sum_in (c' := .loop b83o1) (by kernel_rfl) (o83o1), trivial⟩) r83 (by rw [← tpw83]; exact opt_gOf h)
noncomputable def C42 : Ctx := ⟨Try.prog, sig, Gd G dep (dep 42), (sig 42).keep, (sig 42).ord⟩
noncomputable def c42 : Code := Try.f42.body.getD .skip
def ST42 : List (Nat × (St → Cont (List DV × List (List D)) → Rs)) := []
theorem r42 : ∀ vs, tw42 vs = bodyK C42 (lkS ST42) Try.f42 (sig 42) c42 (fillAs A42 0 vs) := fun vs => by kernel_rfl
theorem ok42 : OkS sig (Gd G dep (dep 42)) 42 th42 := fun xs q h => body_ok Try.func42 (c := c42) rfl A42 tw42 (sums_of (C := C42) (t := ST42) trivial) r42 (by rw [← tpw42]; exact opt_gOf h)
noncomputable def C84 : Ctx := ⟨Try.prog, sig, Gd G dep (dep 84), (sig 84).keep, (sig 84).ord⟩
noncomputable def c84 : Code := Try.f84.body.getD .skip
def ST84 : List (Nat × (St → Cont (List DV × List (List D)) → Rs)) := []
theorem r84 : ∀ vs, tw84 vs = bodyK C84 (lkS ST84) Try.f84 (sig 84) c84 (fillAs A84 0 vs) := fun vs => by kernel_rfl
theorem ok84 : OkS sig (Gd G dep (dep 84)) 84 th84 := fun xs q h => body_ok Try.func84 (c := c84) rfl A84 tw84 (sums_of (C := C84) (t := ST84) trivial) r84 (by rw [← tpw84]; exact opt_gOf h)
noncomputable def C43 : Ctx := ⟨Try.prog, sig, Gd G dep (dep 43), (sig 43).keep, (sig 43).ord⟩
noncomputable def c43 : Code := Try.f43.body.getD .skip
def T43o1 : TSt := ⟨[dL, dL, dB, dI, dB, .any, .any], []⟩
def X43o1e1 : TSt := ⟨[dL, dL, dB, dI, dB, dB, dB], []⟩
def X43o1e2 : TSt := ⟨[dL, dL, dB, dI, dB, dB, .any], []⟩
def L43o1 (m : Nat) (vs : List Vr) (K : Cont (List DV × List (List D))) : Rs := la43o1 tu84 (vL vs 0) (vL vs 1) (vB vs 2) (vB vs 4) (fun n22 b23 b24 => K .ret (fillS X43o1e1 [.l (vL vs 0), .l (vL vs 1), .b (false), .i (n22), .b (vB vs 4), .b (b23), .b (b24)])) (fun n25 b26 v27 => K (.exit 0) (fillS X43o1e2 [.l (vL vs 0), .l (vL vs 1), .b (vB vs 2), .i (n25), .b (vB vs 4), .b (b26), .v (v27)])) m (vI vs 3) (vV vs 5) (vV vs 6)
def ST43 : List (Nat × (St → Cont (List DV × List (List D)) → Rs)) := [(1, sumT T43o1 (L43o1 KK))]
noncomputable def b43o1 : Code := match nodeAt c43 1 with | some (.loop a) => a | _ => .skip
theorem q43o1 : ∀ m vs K, L43o1 (m + 1) vs K = denK C43 (lkS ST43) b43o1 2 (fillS T43o1 vs) (loopK T43o1 (L43o1 m) K) := fun m vs K => by kernel_rfl
theorem o43o1 : SumOk C43 KK (sumT T43o1 (L43o1 KK)) (.loop b43o1) := loop_ok T43o1 L43o1 (sums_of (t := ST43) ⟨fun _ _ h => absurd h (by decide), trivial⟩) (fun _ _ => rfl) q43o1
theorem r43 : ∀ vs, tw43 vs = bodyK C43 (lkS ST43) Try.f43 (sig 43) c43 (fillAs A43 0 vs) := fun vs => by kernel_rfl
theorem ok43 : OkS sig (Gd G dep (dep 43)) 43 th43 := fun xs q h => body_ok Try.func43 (c := c43) rfl A43 tw43 (sums_of (C := C43) (t := ST43) ⟨sum_in (c' := .loop b43o1) (by kernel_rfl) (o43o1), trivial⟩) r43 (by rw [← tpw43]; exact opt_gOf h)
noncomputable def C121 : Ctx := ⟨Try.prog, sig, Gd G dep (dep 121), (sig 121).keep, (sig 121).ord⟩
noncomputable def c121 : Code := Try.f121.body.getD .skip
def ST121 : List (Nat × (St → Cont (List DV × List (List D)) → Rs)) := []
theorem r121 : ∀ vs, tw121 vs = bodyK C121 (lkS ST121) Try.f121 (sig 121) c121 (fillAs A121 0 vs) := fun vs => by kernel_rfl
theorem ok121 : OkS sig (Gd G dep (dep 121)) 121 th121 := fun xs q h => body_ok Try.func121 (c := c121) rfl A121 tw121 (sums_of (C := C121) (t := ST121) trivial) r121 (by rw [← tpw121]; exact opt_gOf h)
noncomputable def C85 : Ctx := ⟨Try.prog, sig, Gd G dep (dep 85), (sig 85).keep, (sig 85).ord⟩
noncomputable def c85 : Code := Try.f85.body.getD .skip
def ST85 : List (Nat × (St → Cont (List DV × List (List D)) → Rs)) := []
theorem r85 : ∀ vs, tw85 vs = bodyK C85 (lkS ST85) Try.f85 (sig 85) c85 (fillAs A85 0 vs) := fun vs => by kernel_rfl
theorem ok85 : OkS sig (Gd G dep (dep 85)) 85 th85 := fun xs q h => body_ok Try.func85 (c := c85) rfl A85 tw85 (sums_of (C := C85) (t := ST85) trivial) r85 (by rw [← tpw85]; exact opt_gOf h)
noncomputable def C44 : Ctx := ⟨Try.prog, sig, Gd G dep (dep 44), (sig 44).keep, (sig 44).ord⟩
noncomputable def c44 : Code := Try.f44.body.getD .skip
def T44o1 : TSt := ⟨[dL, dL, dB, dI, dB, .any, .any], []⟩
def X44o1e1 : TSt := ⟨[dL, dL, dB, dI, dB, dB, dB], []⟩
def X44o1e2 : TSt := ⟨[dL, dL, dB, dI, dB, dB, .any], []⟩
def L44o1 (m : Nat) (vs : List Vr) (K : Cont (List DV × List (List D))) : Rs := la44o1 tu85 (vL vs 0) (vL vs 1) (vB vs 2) (vB vs 4) (fun n22 b23 b24 => K .ret (fillS X44o1e1 [.l (vL vs 0), .l (vL vs 1), .b (false), .i (n22), .b (vB vs 4), .b (b23), .b (b24)])) (fun n25 b26 v27 => K (.exit 0) (fillS X44o1e2 [.l (vL vs 0), .l (vL vs 1), .b (vB vs 2), .i (n25), .b (vB vs 4), .b (b26), .v (v27)])) m (vI vs 3) (vV vs 5) (vV vs 6)
def ST44 : List (Nat × (St → Cont (List DV × List (List D)) → Rs)) := [(1, sumT T44o1 (L44o1 KK))]
noncomputable def b44o1 : Code := match nodeAt c44 1 with | some (.loop a) => a | _ => .skip
theorem q44o1 : ∀ m vs K, L44o1 (m + 1) vs K = denK C44 (lkS ST44) b44o1 2 (fillS T44o1 vs) (loopK T44o1 (L44o1 m) K) := fun m vs K => by kernel_rfl
theorem o44o1 : SumOk C44 KK (sumT T44o1 (L44o1 KK)) (.loop b44o1) := loop_ok T44o1 L44o1 (sums_of (t := ST44) ⟨fun _ _ h => absurd h (by decide), trivial⟩) (fun _ _ => rfl) q44o1
theorem r44 : ∀ vs, tw44 vs = bodyK C44 (lkS ST44) Try.f44 (sig 44) c44 (fillAs A44 0 vs) := fun vs => by kernel_rfl
theorem ok44 : OkS sig (Gd G dep (dep 44)) 44 th44 := fun xs q h => body_ok Try.func44 (c := c44) rfl A44 tw44 (sums_of (C := C44) (t := ST44) ⟨sum_in (c' := .loop b44o1) (by kernel_rfl) (o44o1), trivial⟩) r44 (by rw [← tpw44]; exact opt_gOf h)
noncomputable def C14 : Ctx := ⟨Try.prog, sig, Gd G dep (dep 14), (sig 14).keep, (sig 14).ord⟩
noncomputable def c14 : Code := Try.f14.body.getD .skip
def ST14 : List (Nat × (St → Cont (List DV × List (List D)) → Rs)) := []
theorem r14 : ∀ vs, tw14 vs = bodyK C14 (lkS ST14) Try.f14 (sig 14) c14 (fillAs A14 0 vs) := fun vs => by kernel_rfl
theorem ok14 : OkS sig (Gd G dep (dep 14)) 14 th14 := fun xs q h => body_ok Try.func14 (c := c14) rfl A14 tw14 (sums_of (C := C14) (t := ST14) trivial) r14 (by rw [← tpw14]; exact opt_gOf h)
noncomputable def C19 : Ctx := ⟨Try.prog, sig, Gd G dep (dep 19), (sig 19).keep, (sig 19).ord⟩
noncomputable def c19 : Code := Try.f19.body.getD .skip
def T19o1 : TSt := ⟨[dL, dL, dB, dI, dB, .any, .any], []⟩
def X19o1e1 : TSt := ⟨[dL, dL, dB, dI, dB, dB, dB], []⟩
def X19o1e2 : TSt := ⟨[dL, dL, dB, dI, dB, dB, .any], []⟩
def L19o1 (m : Nat) (vs : List Vr) (K : Cont (List DV × List (List D))) : Rs := la19o1 tu14 (vL vs 0) (vL vs 1) (vB vs 2) (vB vs 4) (fun n22 b23 b24 => K .ret (fillS X19o1e1 [.l (vL vs 0), .l (vL vs 1), .b (false), .i (n22), .b (vB vs 4), .b (b23), .b (b24)])) (fun n25 b26 v27 => K (.exit 0) (fillS X19o1e2 [.l (vL vs 0), .l (vL vs 1), .b (vB vs 2), .i (n25), .b (vB vs 4), .b (b26), .v (v27)])) m (vI vs 3) (vV vs 5) (vV vs 6)
def ST19 : List (Nat × (St → Cont (List DV × List (List D)) → Rs)) := [(1, sumT T19o1 (L19o1 KK))]
noncomputable def b19o1 : Code := match nodeAt c19 1 with | some (.loop a) => a | _ => .skip
theorem q19o1 : ∀ m vs K, L19o1 (m + 1) vs K = denK C19 (lkS ST19) b19o1 2 (fillS T19o1 vs) (loopK T19o1 (L19o1 m) K) := fun m vs K => by kernel_rfl
theorem o19o1 : SumOk C19 KK (sumT T19o1 (L19o1 KK)) (.loop b19o1) := loop_ok T19o1 L19o1 (sums_of (t := ST19) ⟨fun _ _ h => absurd h (by decide), trivial⟩) (fun _ _ => rfl) q19o1
theorem r19 : ∀ vs, tw19 vs = bodyK C19 (lkS ST19) Try.f19 (sig 19) c19 (fillAs A19 0 vs) := fun vs => by kernel_rfl
theorem ok19 : OkS sig (Gd G dep (dep 19)) 19 th19 := fun xs q h => body_ok Try.func19 (c := c19) rfl A19 tw19 (sums_of (C := C19) (t := ST19) ⟨sum_in (c' := .loop b19o1) (by kernel_rfl) (o19o1), trivial⟩) r19 (by rw [← tpw19]; exact opt_gOf h)
noncomputable def C8 : Ctx := ⟨Try.prog, sig, Gd G dep (dep 8), (sig 8).keep, (sig 8).ord⟩
noncomputable def c8 : Code := Try.f8.body.getD .skip
def ST8 : List (Nat × (St → Cont (List DV × List (List D)) → Rs)) := []
theorem r8 : ∀ vs, tw8 vs = bodyK C8 (lkS ST8) Try.f8 (sig 8) c8 (fillAs A8 0 vs) := fun vs => by kernel_rfl
theorem ok8 : OkS sig (Gd G dep (dep 8)) 8 th8 := fun xs q h => body_ok Try.func8 (c := c8) rfl A8 tw8 (sums_of (C := C8) (t := ST8) trivial) r8 (by rw [← tpw8]; exact opt_gOf h)
theorem fn_ok : ∀ f ∈ [144, 138, 122, 89, 53, 54, 123, 90, 55, 22, 26, 145, 140, 128, 96, 60, 97, 61, 129, 98, 62, 24, 28, 57, 139, 124, 125, 126, 91, 92, 93, 94, 127, 95, 56, 58, 59, 23, 27, 69, 67, 68, 70, 30, 32, 63, 64, 65, 141, 130, 142, 132, 131, 99, 133, 101, 100, 102, 103, 135, 105, 134, 104, 66, 25, 29, 109, 108, 106, 107, 110, 71, 72, 33, 143, 137, 120, 83, 42, 84, 43, 121, 85, 44, 14, 19, 8], FnOk Try.prog sig f := fun f h => fnOk_of (List.all_eq_true.1 (show [144, 138, 122, 89, 53, 54, 123, 90, 55, 22, 26, 145, 140, 128, 96, 60, 97, 61, 129, 98, 62, 24, 28, 57, 139, 124, 125, 126, 91, 92, 93, 94, 127, 95, 56, 58, 59, 23, 27, 69, 67, 68, 70, 30, 32, 63, 64, 65, 141, 130, 142, 132, 131, 99, 133, 101, 100, 102, 103, 135, 105, 134, 104, 66, 25, 29, 109, 108, 106, 107, 110, 71, 72, 33, 143, 137, 120, 83, 42, 84, 43, 121, 85, 44, 14, 19, 8].all (fnOkB Try.prog sig) = true by kernel_rfl) f h)
theorem all_ok : AllG (fun f xs q => FnOk Try.prog sig f ∧ evalBody Try.prog sig (Gd G dep (dep f)) KK f xs = some q) gT :=
  ⟨fun xs q h => ⟨fn_ok 144 (by simp), ok144 xs q h⟩, fun xs q h => ⟨fn_ok 138 (by simp), ok138 xs q h⟩, fun xs q h => ⟨fn_ok 122 (by simp), ok122 xs q h⟩, fun xs q h => ⟨fn_ok 89 (by simp), ok89 xs q h⟩, fun xs q h => ⟨fn_ok 53 (by simp), ok53 xs q h⟩, fun xs q h => ⟨fn_ok 54 (by simp), ok54 xs q h⟩, fun xs q h => ⟨fn_ok 123 (by simp), ok123 xs q h⟩, fun xs q h => ⟨fn_ok 90 (by simp), ok90 xs q h⟩, fun xs q h => ⟨fn_ok 55 (by simp), ok55 xs q h⟩, fun xs q h => ⟨fn_ok 22 (by simp), ok22 xs q h⟩, fun xs q h => ⟨fn_ok 26 (by simp), ok26 xs q h⟩, fun xs q h => ⟨fn_ok 145 (by simp), ok145 xs q h⟩, fun xs q h => ⟨fn_ok 140 (by simp), ok140 xs q h⟩, fun xs q h => ⟨fn_ok 128 (by simp), ok128 xs q h⟩, fun xs q h => ⟨fn_ok 96 (by simp), ok96 xs q h⟩, fun xs q h => ⟨fn_ok 60 (by simp), ok60 xs q h⟩, fun xs q h => ⟨fn_ok 97 (by simp), ok97 xs q h⟩, fun xs q h => ⟨fn_ok 61 (by simp), ok61 xs q h⟩, fun xs q h => ⟨fn_ok 129 (by simp), ok129 xs q h⟩, fun xs q h => ⟨fn_ok 98 (by simp), ok98 xs q h⟩, fun xs q h => ⟨fn_ok 62 (by simp), ok62 xs q h⟩, fun xs q h => ⟨fn_ok 24 (by simp), ok24 xs q h⟩, fun xs q h => ⟨fn_ok 28 (by simp), ok28 xs q h⟩, fun xs q h => ⟨fn_ok 57 (by simp), ok57 xs q h⟩, fun xs q h => ⟨fn_ok 139 (by simp), ok139 xs q h⟩, fun xs q h => ⟨fn_ok 124 (by simp), ok124 xs q h⟩, fun xs q h => ⟨fn_ok 125 (by simp), ok125 xs q h⟩, fun xs q h => ⟨fn_ok 126 (by simp), ok126 xs q h⟩, fun xs q h => ⟨fn_ok 91 (by simp), ok91 xs q h⟩, fun xs q h => ⟨fn_ok 92 (by simp), ok92 xs q h⟩, fun xs q h => ⟨fn_ok 93 (by simp), ok93 xs q h⟩, fun xs q h => ⟨fn_ok 94 (by simp), ok94 xs q h⟩, fun xs q h => ⟨fn_ok 127 (by simp), ok127 xs q h⟩, fun xs q h => ⟨fn_ok 95 (by simp), ok95 xs q h⟩, fun xs q h => ⟨fn_ok 56 (by simp), ok56 xs q h⟩, fun xs q h => ⟨fn_ok 58 (by simp), ok58 xs q h⟩, fun xs q h => ⟨fn_ok 59 (by simp), ok59 xs q h⟩, fun xs q h => ⟨fn_ok 23 (by simp), ok23 xs q h⟩, fun xs q h => ⟨fn_ok 27 (by simp), ok27 xs q h⟩, fun xs q h => ⟨fn_ok 69 (by simp), ok69 xs q h⟩, fun xs q h => ⟨fn_ok 67 (by simp), ok67 xs q h⟩, fun xs q h => ⟨fn_ok 68 (by simp), ok68 xs q h⟩, fun xs q h => ⟨fn_ok 70 (by simp), ok70 xs q h⟩, fun xs q h => ⟨fn_ok 30 (by simp), ok30 xs q h⟩, fun xs q h => ⟨fn_ok 32 (by simp), ok32 xs q h⟩, fun xs q h => ⟨fn_ok 63 (by simp), ok63 xs q h⟩, fun xs q h => ⟨fn_ok 64 (by simp), ok64 xs q h⟩, fun xs q h => ⟨fn_ok 65 (by simp), ok65 xs q h⟩, fun xs q h => ⟨fn_ok 141 (by simp), ok141 xs q h⟩, fun xs q h => ⟨fn_ok 130 (by simp), ok130 xs q h⟩, fun xs q h => ⟨fn_ok 142 (by simp), ok142 xs q h⟩, fun xs q h => ⟨fn_ok 132 (by simp), ok132 xs q h⟩, fun xs q h => ⟨fn_ok 131 (by simp), ok131 xs q h⟩, fun xs q h => ⟨fn_ok 99 (by simp), ok99 xs q h⟩, fun xs q h => ⟨fn_ok 133 (by simp), ok133 xs q h⟩, fun xs q h => ⟨fn_ok 101 (by simp), ok101 xs q h⟩, fun xs q h => ⟨fn_ok 100 (by simp), ok100 xs q h⟩, fun xs q h => ⟨fn_ok 102 (by simp), ok102 xs q h⟩, fun xs q h => ⟨fn_ok 103 (by simp), ok103 xs q h⟩, fun xs q h => ⟨fn_ok 135 (by simp), ok135 xs q h⟩, fun xs q h => ⟨fn_ok 105 (by simp), ok105 xs q h⟩, fun xs q h => ⟨fn_ok 134 (by simp), ok134 xs q h⟩, fun xs q h => ⟨fn_ok 104 (by simp), ok104 xs q h⟩, fun xs q h => ⟨fn_ok 66 (by simp), ok66 xs q h⟩, fun xs q h => ⟨fn_ok 25 (by simp), ok25 xs q h⟩, fun xs q h => ⟨fn_ok 29 (by simp), ok29 xs q h⟩, fun xs q h => ⟨fn_ok 109 (by simp), ok109 xs q h⟩, fun xs q h => ⟨fn_ok 108 (by simp), ok108 xs q h⟩, fun xs q h => ⟨fn_ok 106 (by simp), ok106 xs q h⟩, fun xs q h => ⟨fn_ok 107 (by simp), ok107 xs q h⟩, fun xs q h => ⟨fn_ok 110 (by simp), ok110 xs q h⟩, fun xs q h => ⟨fn_ok 71 (by simp), ok71 xs q h⟩, fun xs q h => ⟨fn_ok 72 (by simp), ok72 xs q h⟩, fun xs q h => ⟨fn_ok 33 (by simp), ok33 xs q h⟩, fun xs q h => ⟨fn_ok 143 (by simp), ok143 xs q h⟩, fun xs q h => ⟨fn_ok 137 (by simp), ok137 xs q h⟩, fun xs q h => ⟨fn_ok 120 (by simp), ok120 xs q h⟩, fun xs q h => ⟨fn_ok 83 (by simp), ok83 xs q h⟩, fun xs q h => ⟨fn_ok 42 (by simp), ok42 xs q h⟩, fun xs q h => ⟨fn_ok 84 (by simp), ok84 xs q h⟩, fun xs q h => ⟨fn_ok 43 (by simp), ok43 xs q h⟩, fun xs q h => ⟨fn_ok 121 (by simp), ok121 xs q h⟩, fun xs q h => ⟨fn_ok 85 (by simp), ok85 xs q h⟩, fun xs q h => ⟨fn_ok 44 (by simp), ok44 xs q h⟩, fun xs q h => ⟨fn_ok 14 (by simp), ok14 xs q h⟩, fun xs q h => ⟨fn_ok 19 (by simp), ok19 xs q h⟩, fun xs q h => ⟨fn_ok 8 (by simp), ok8 xs q h⟩, trivial⟩
theorem G_ok (f : Nat) : SpecOk Try.prog (sig f) (fun xs => opt (G f xs)) f := G_spec (by kernel_rfl) (allG_of all_ok) f
end
end Go.Den.L8
