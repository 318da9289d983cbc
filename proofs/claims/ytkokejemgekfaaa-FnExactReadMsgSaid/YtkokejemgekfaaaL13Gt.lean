/- The functions' table, and that each is what its twin says. Printed by tw.py. -/
import Derived.Test.YtkokejemgekfaaaL13Tw
import Derived.Test.YtkokejemgekfaaaProg
import Derived.KernelRfl
set_option linter.unusedVariables false
namespace Go.Den.L13
open Go Go.Proofs
noncomputable section
set_option maxRecDepth 100000
def U {α : Type} (a : α) : α := Classical.choose (⟨a, rfl⟩ : ∃ f, f = a)
theorem U_eq {α : Type} (a : α) : U a = a := Classical.choose_spec (⟨a, rfl⟩ : ∃ f, f = a)
abbrev dI : TV := .d (.i .i64)
abbrev dB : TV := .d .b
abbrev dS : TV := .d .s
abbrev dL : TV := .d .l
abbrev KT := Cont (List DV × List (List D))
abbrev LT := List (Nat × (St → KT → Rs))
def Qp (L : Nat → List Vr → KT → Rs) (C : Ctx) (S : LT) (b : Code) (n : Nat) (T : TSt) : Prop := ∀ m vs K, L (m + 1) vs K = denK C (lkS S) b n (fillS T vs) (loopK T (L m) K)
abbrev jB (vs : List Vr) (n : Nat) : Vr := .b (vB vs n)
abbrev jI (vs : List Vr) (n : Nat) : Vr := .i (vI vs n)
abbrev jS (vs : List Vr) (n : Nat) : Vr := .s (vS vs n)
abbrev jL (vs : List Vr) (n : Nat) : Vr := .l (vL vs n)
abbrev jN (vs : List Vr) (n : Nat) : Vr := .n (vN vs n)
abbrev jV (vs : List Vr) (n : Nat) : Vr := .v (vV vs n)
def OkS (sig : Nat → Sig) (g : Nat → List DV → Bool × List DV × List (List D)) (f : Nat) (th : List DV → Bool × List DV × List (List D)) : Prop := ∀ xs q, opt (th xs) = some q → evalBody Try.prog sig g KK f xs = some q
def tu60 := U t60
theorem te60 : t60 = t60 := rfl
def tw60 (vs : List Vr) : Rs := t60 (vI vs 0) (vI vs 1) (vI vs 2)
def tp60 (vs : List Vr) : Rs := tu60 (vI vs 0) (vI vs 1) (vI vs 2)
theorem tpw60 : tp60 = tw60 := funext fun vs => by unfold tp60 tw60; rw [show tu60 = t60 from U_eq _, te60]
def th60 := fun xs => gOf zr60 zo60 (argsT A60 tp60 xs)
def tu89 := U t89
theorem te89 : ta89 tu60 = t89 := (by rw [show tu60 = t60 from U_eq _] : ta89 tu60 = ta89 t60).trans rfl
def tw89 (vs : List Vr) : Rs := ta89 tu60 (vI vs 0)
def tp89 (vs : List Vr) : Rs := tu89 (vI vs 0)
theorem tpw89 : tp89 = tw89 := funext fun vs => by unfold tp89 tw89; rw [show tu89 = t89 from U_eq _, te89]
def th89 := fun xs => gOf zr89 zo89 (argsT A89 tp89 xs)
def tu84 := U t84
theorem te84 : ta84 tu89 = t84 := (by rw [show tu89 = t89 from U_eq _] : ta84 tu89 = ta84 t89).trans rfl
def tw84 (vs : List Vr) : Rs := ta84 tu89 (vS vs 0)
def tp84 (vs : List Vr) : Rs := tu84 (vS vs 0)
theorem tpw84 : tp84 = tw84 := funext fun vs => by unfold tp84 tw84; rw [show tu84 = t84 from U_eq _, te84]
def th84 := fun xs => gOf zr84 zo84 (argsT A84 tp84 xs)
def tu92 := U t92
theorem te92 : ta92 tu84 = t92 := (by rw [show tu84 = t84 from U_eq _] : ta92 tu84 = ta92 t84).trans rfl
def tw92 (vs : List Vr) : Rs := ta92 tu84 (vS vs 0) (vI vs 1) (vI vs 2)
def tp92 (vs : List Vr) : Rs := tu92 (vS vs 0) (vI vs 1) (vI vs 2)
theorem tpw92 : tp92 = tw92 := funext fun vs => by unfold tp92 tw92; rw [show tu92 = t92 from U_eq _, te92]
def th92 := fun xs => gOf zr92 zo92 (argsT A92 tp92 xs)
def tu93 := U t93
theorem te93 : ta93 tu92 = t93 := (by rw [show tu92 = t92 from U_eq _] : ta93 tu92 = ta93 t92).trans rfl
def tw93 (vs : List Vr) : Rs := ta93 tu92 (vS vs 0) (vI vs 1)
def tp93 (vs : List Vr) : Rs := tu93 (vS vs 0) (vI vs 1)
theorem tpw93 : tp93 = tw93 := funext fun vs => by unfold tp93 tw93; rw [show tu93 = t93 from U_eq _, te93]
def th93 := fun xs => gOf zr93 zo93 (argsT A93 tp93 xs)
def tu72 := U t72
theorem te72 : ta72 tu60 = t72 := (by rw [show tu60 = t60 from U_eq _] : ta72 tu60 = ta72 t60).trans rfl
def tw72 (vs : List Vr) : Rs := ta72 tu60 (vI vs 0)
def tp72 (vs : List Vr) : Rs := tu72 (vI vs 0)
theorem tpw72 : tp72 = tw72 := funext fun vs => by unfold tp72 tw72; rw [show tu72 = t72 from U_eq _, te72]
def th72 := fun xs => gOf zr72 zo72 (argsT A72 tp72 xs)
def tu73 := U t73
theorem te73 : ta73 tu60 = t73 := (by rw [show tu60 = t60 from U_eq _] : ta73 tu60 = ta73 t60).trans rfl
def tw73 (vs : List Vr) : Rs := ta73 tu60 (vI vs 0) (vI vs 1)
def tp73 (vs : List Vr) : Rs := tu73 (vI vs 0) (vI vs 1)
theorem tpw73 : tp73 = tw73 := funext fun vs => by unfold tp73 tw73; rw [show tu73 = t73 from U_eq _, te73]
def th73 := fun xs => gOf zr73 zo73 (argsT A73 tp73 xs)
def tu74 := U t74
theorem te74 : ta74 tu60 = t74 := (by rw [show tu60 = t60 from U_eq _] : ta74 tu60 = ta74 t60).trans rfl
def tw74 (vs : List Vr) : Rs := ta74 tu60 (vL vs 0) (vI vs 1) (vI vs 2)
def tp74 (vs : List Vr) : Rs := tu74 (vL vs 0) (vI vs 1) (vI vs 2)
theorem tpw74 : tp74 = tw74 := funext fun vs => by unfold tp74 tw74; rw [show tu74 = t74 from U_eq _, te74]
def th74 := fun xs => gOf zr74 zo74 (argsT A74 tp74 xs)
def tu114 := U t114
theorem te114 : t114 = t114 := rfl
def tw114 (vs : List Vr) : Rs := t114 (vL vs 0) (vL vs 1)
def tp114 (vs : List Vr) : Rs := tu114 (vL vs 0) (vL vs 1)
theorem tpw114 : tp114 = tw114 := funext fun vs => by unfold tp114 tw114; rw [show tu114 = t114 from U_eq _, te114]
def th114 := fun xs => gOf zr114 zo114 (argsT A114 tp114 xs)
def tu75 := U t75
theorem te75 : ta75 tu114 = t75 := (by rw [show tu114 = t114 from U_eq _] : ta75 tu114 = ta75 t114).trans rfl
def tw75 (vs : List Vr) : Rs := ta75 tu114 (vI vs 0) (vI vs 1) (vI vs 2) (vI vs 3) (vI vs 4) (vI vs 5) (vI vs 6) (vB vs 7) (vL vs 8) (vS vs 9) (vI vs 10) (vI vs 11) (vI vs 12) (vI vs 13) (vI vs 14) (vI vs 15) (vI vs 16) (vB vs 17) (vL vs 18) (vS vs 19)
def tp75 (vs : List Vr) : Rs := tu75 (vI vs 0) (vI vs 1) (vI vs 2) (vI vs 3) (vI vs 4) (vI vs 5) (vI vs 6) (vB vs 7) (vL vs 8) (vS vs 9) (vI vs 10) (vI vs 11) (vI vs 12) (vI vs 13) (vI vs 14) (vI vs 15) (vI vs 16) (vB vs 17) (vL vs 18) (vS vs 19)
theorem tpw75 : tp75 = tw75 := funext fun vs => by unfold tp75 tw75; rw [show tu75 = t75 from U_eq _, te75]
def th75 := fun xs => gOf zr75 zo75 (argsT A75 tp75 xs)
def tu37 := U t37
theorem te37 : ta37 tu60 tu72 tu73 tu74 tu75 = t37 := (by rw [show tu60 = t60 from U_eq _, show tu72 = t72 from U_eq _, show tu73 = t73 from U_eq _, show tu74 = t74 from U_eq _, show tu75 = t75 from U_eq _] : ta37 tu60 tu72 tu73 tu74 tu75 = ta37 t60 t72 t73 t74 t75).trans rfl
def tw37 (vs : List Vr) : Rs := ta37 tu60 tu72 tu73 tu74 tu75 (vI vs 0) (vI vs 1) (vI vs 2) (vI vs 3) (vI vs 4) (vI vs 5) (vI vs 6) (vB vs 7) (vL vs 8) (vS vs 9)
def tp37 (vs : List Vr) : Rs := tu37 (vI vs 0) (vI vs 1) (vI vs 2) (vI vs 3) (vI vs 4) (vI vs 5) (vI vs 6) (vB vs 7) (vL vs 8) (vS vs 9)
theorem tpw37 : tp37 = tw37 := funext fun vs => by unfold tp37 tw37; rw [show tu37 = t37 from U_eq _, te37]
def th37 := fun xs => gOf zr37 zo37 (argsT A37 tp37 xs)
def tu90 := U t90
theorem te90 : t90 = t90 := rfl
def tw90 (vs : List Vr) : Rs := t90 (vB vs 0)
def tp90 (vs : List Vr) : Rs := tu90 (vB vs 0)
theorem tpw90 : tp90 = tw90 := funext fun vs => by unfold tp90 tw90; rw [show tu90 = t90 from U_eq _, te90]
def th90 := fun xs => gOf zr90 zo90 (argsT A90 tp90 xs)
def tu48 := U t48
theorem te48 : ta48 tu37 tu89 tu90 = t48 := (by rw [show tu37 = t37 from U_eq _, show tu89 = t89 from U_eq _, show tu90 = t90 from U_eq _] : ta48 tu37 tu89 tu90 = ta48 t37 t89 t90).trans rfl
def tw48 (vs : List Vr) : Rs := ta48 tu37 tu89 tu90 (vI vs 0) (vI vs 1) (vI vs 2) (vI vs 3) (vI vs 4) (vI vs 5) (vI vs 6) (vB vs 7) (vL vs 8) (vS vs 9)
def tp48 (vs : List Vr) : Rs := tu48 (vI vs 0) (vI vs 1) (vI vs 2) (vI vs 3) (vI vs 4) (vI vs 5) (vI vs 6) (vB vs 7) (vL vs 8) (vS vs 9)
theorem tpw48 : tp48 = tw48 := funext fun vs => by unfold tp48 tw48; rw [show tu48 = t48 from U_eq _, te48]
def th48 := fun xs => gOf zr48 zo48 (argsT A48 tp48 xs)
def tu54 := U t54
theorem te54 : ta54 tu48 tu92 tu93 = t54 := (by rw [show tu48 = t48 from U_eq _, show tu92 = t92 from U_eq _, show tu93 = t93 from U_eq _] : ta54 tu48 tu92 tu93 = ta54 t48 t92 t93).trans rfl
def tw54 (vs : List Vr) : Rs := ta54 tu48 tu92 tu93 (vS vs 0)
def tp54 (vs : List Vr) : Rs := tu54 (vS vs 0)
theorem tpw54 : tp54 = tw54 := funext fun vs => by unfold tp54 tw54; rw [show tu54 = t54 from U_eq _, te54]
def th54 := fun xs => gOf zr54 zo54 (argsT A54 tp54 xs)
def tu86 := U t86
theorem te86 : t86 = t86 := rfl
def tw86 (vs : List Vr) : Rs := t86 (vS vs 0)
def tp86 (vs : List Vr) : Rs := tu86 (vS vs 0)
theorem tpw86 : tp86 = tw86 := funext fun vs => by unfold tp86 tw86; rw [show tu86 = t86 from U_eq _, te86]
def th86 := fun xs => gOf zr86 zo86 (argsT A86 tp86 xs)
def tu95 := U t95
theorem te95 : ta95 tu86 = t95 := (by rw [show tu86 = t86 from U_eq _] : ta95 tu86 = ta95 t86).trans rfl
def tw95 (vs : List Vr) : Rs := ta95 tu86 (vS vs 0) (vB vs 1)
def tp95 (vs : List Vr) : Rs := tu95 (vS vs 0) (vB vs 1)
theorem tpw95 : tp95 = tw95 := funext fun vs => by unfold tp95 tw95; rw [show tu95 = t95 from U_eq _, te95]
def th95 := fun xs => gOf zr95 zo95 (argsT A95 tp95 xs)
def tu99 := U t99
theorem te99 : ta99 tu95 = t99 := (by rw [show tu95 = t95 from U_eq _] : ta99 tu95 = ta99 t95).trans rfl
def tw99 (vs : List Vr) : Rs := ta99 tu95 (vS vs 0) (vB vs 1) (vI vs 2)
def tp99 (vs : List Vr) : Rs := tu99 (vS vs 0) (vB vs 1) (vI vs 2)
theorem tpw99 : tp99 = tw99 := funext fun vs => by unfold tp99 tw99; rw [show tu99 = t99 from U_eq _, te99]
def th99 := fun xs => gOf zr99 zo99 (argsT A99 tp99 xs)
def tu121 := U t121
theorem te121 : t121 = t121 := rfl
def tw121 (vs : List Vr) : Rs := t121 (vS vs 0) (vB vs 1) (vI vs 2)
def tp121 (vs : List Vr) : Rs := tu121 (vS vs 0) (vB vs 1) (vI vs 2)
theorem tpw121 : tp121 = tw121 := funext fun vs => by unfold tp121 tw121; rw [show tu121 = t121 from U_eq _, te121]
def th121 := fun xs => gOf zr121 zo121 (argsT A121 tp121 xs)
def tu97 := U t97
theorem te97 : ta97 tu95 tu121 = t97 := (by rw [show tu95 = t95 from U_eq _, show tu121 = t121 from U_eq _] : ta97 tu95 tu121 = ta97 t95 t121).trans rfl
def tw97 (vs : List Vr) : Rs := ta97 tu95 tu121 (vS vs 0) (vB vs 1)
def tp97 (vs : List Vr) : Rs := tu97 (vS vs 0) (vB vs 1)
theorem tpw97 : tp97 = tw97 := funext fun vs => by unfold tp97 tw97; rw [show tu97 = t97 from U_eq _, te97]
def th97 := fun xs => gOf zr97 zo97 (argsT A97 tp97 xs)
def tu62 := U t62
theorem te62 : t62 = t62 := rfl
def tw62 (vs : List Vr) : Rs := t62 (vI vs 0) (vI vs 1) (vI vs 2)
def tp62 (vs : List Vr) : Rs := tu62 (vI vs 0) (vI vs 1) (vI vs 2)
theorem tpw62 : tp62 = tw62 := funext fun vs => by unfold tp62 tw62; rw [show tu62 = t62 from U_eq _, te62]
def th62 := fun xs => gOf zr62 zo62 (argsT A62 tp62 xs)
def tu77 := U t77
theorem te77 : ta77 tu62 = t77 := (by rw [show tu62 = t62 from U_eq _] : ta77 tu62 = ta77 t62).trans rfl
def tw77 (vs : List Vr) : Rs := ta77 tu62 (vI vs 0) (vI vs 1)
def tp77 (vs : List Vr) : Rs := tu77 (vI vs 0) (vI vs 1)
theorem tpw77 : tp77 = tw77 := funext fun vs => by unfold tp77 tw77; rw [show tu77 = t77 from U_eq _, te77]
def th77 := fun xs => gOf zr77 zo77 (argsT A77 tp77 xs)
def tu78 := U t78
theorem te78 : ta78 tu62 = t78 := (by rw [show tu62 = t62 from U_eq _] : ta78 tu62 = ta78 t62).trans rfl
def tw78 (vs : List Vr) : Rs := ta78 tu62 (vI vs 0) (vI vs 1) (vI vs 2) (vI vs 3) (vI vs 4) (vI vs 5) (vI vs 6) (vB vs 7) (vL vs 8) (vS vs 9)
def tp78 (vs : List Vr) : Rs := tu78 (vI vs 0) (vI vs 1) (vI vs 2) (vI vs 3) (vI vs 4) (vI vs 5) (vI vs 6) (vB vs 7) (vL vs 8) (vS vs 9)
theorem tpw78 : tp78 = tw78 := funext fun vs => by unfold tp78 tw78; rw [show tu78 = t78 from U_eq _, te78]
def th78 := fun xs => gOf zr78 zo78 (argsT A78 tp78 xs)
def tu116 := U t116
theorem te116 : t116 = t116 := rfl
def tw116 (vs : List Vr) : Rs := t116 (vL vs 0) (vL vs 1)
def tp116 (vs : List Vr) : Rs := tu116 (vL vs 0) (vL vs 1)
theorem tpw116 : tp116 = tw116 := funext fun vs => by unfold tp116 tw116; rw [show tu116 = t116 from U_eq _, te116]
def th116 := fun xs => gOf zr116 zo116 (argsT A116 tp116 xs)
def tu79 := U t79
theorem te79 : ta79 tu116 = t79 := (by rw [show tu116 = t116 from U_eq _] : ta79 tu116 = ta79 t116).trans rfl
def tw79 (vs : List Vr) : Rs := ta79 tu116 (vI vs 0) (vI vs 1) (vI vs 2) (vI vs 3) (vI vs 4) (vI vs 5) (vI vs 6) (vB vs 7) (vL vs 8) (vS vs 9) (vI vs 10) (vI vs 11) (vI vs 12) (vI vs 13) (vI vs 14) (vI vs 15) (vI vs 16) (vB vs 17) (vL vs 18) (vS vs 19)
def tp79 (vs : List Vr) : Rs := tu79 (vI vs 0) (vI vs 1) (vI vs 2) (vI vs 3) (vI vs 4) (vI vs 5) (vI vs 6) (vB vs 7) (vL vs 8) (vS vs 9) (vI vs 10) (vI vs 11) (vI vs 12) (vI vs 13) (vI vs 14) (vI vs 15) (vI vs 16) (vB vs 17) (vL vs 18) (vS vs 19)
theorem tpw79 : tp79 = tw79 := funext fun vs => by unfold tp79 tw79; rw [show tu79 = t79 from U_eq _, te79]
def th79 := fun xs => gOf zr79 zo79 (argsT A79 tp79 xs)
def tu39 := U t39
theorem te39 : ta39 tu62 tu77 tu78 tu79 = t39 := (by rw [show tu62 = t62 from U_eq _, show tu77 = t77 from U_eq _, show tu78 = t78 from U_eq _, show tu79 = t79 from U_eq _] : ta39 tu62 tu77 tu78 tu79 = ta39 t62 t77 t78 t79).trans rfl
def tw39 (vs : List Vr) : Rs := ta39 tu62 tu77 tu78 tu79 (vI vs 0) (vI vs 1) (vI vs 2) (vI vs 3) (vI vs 4) (vI vs 5) (vI vs 6) (vB vs 7) (vL vs 8) (vS vs 9)
def tp39 (vs : List Vr) : Rs := tu39 (vI vs 0) (vI vs 1) (vI vs 2) (vI vs 3) (vI vs 4) (vI vs 5) (vI vs 6) (vB vs 7) (vL vs 8) (vS vs 9)
theorem tpw39 : tp39 = tw39 := funext fun vs => by unfold tp39 tw39; rw [show tu39 = t39 from U_eq _, te39]
def th39 := fun xs => gOf zr39 zo39 (argsT A39 tp39 xs)
def tu55 := U t55
theorem te55 : ta55 tu39 tu95 tu97 tu99 = t55 := (by rw [show tu39 = t39 from U_eq _, show tu95 = t95 from U_eq _, show tu97 = t97 from U_eq _, show tu99 = t99 from U_eq _] : ta55 tu39 tu95 tu97 tu99 = ta55 t39 t95 t97 t99).trans rfl
def tw55 (vs : List Vr) : Rs := ta55 tu39 tu95 tu97 tu99 (vS vs 0)
def tp55 (vs : List Vr) : Rs := tu55 (vS vs 0)
theorem tpw55 : tp55 = tw55 := funext fun vs => by unfold tp55 tw55; rw [show tu55 = t55 from U_eq _, te55]
def th55 := fun xs => gOf zr55 zo55 (argsT A55 tp55 xs)
def tu117 := U t117
theorem te117 : t117 = t117 := rfl
def tw117 (vs : List Vr) : Rs := t117 (vI vs 0) (vS vs 1) (vI vs 2) (vS vs 3)
def tp117 (vs : List Vr) : Rs := tu117 (vI vs 0) (vS vs 1) (vI vs 2) (vS vs 3)
theorem tpw117 : tp117 = tw117 := funext fun vs => by unfold tp117 tw117; rw [show tu117 = t117 from U_eq _, te117]
def th117 := fun xs => gOf zr117 zo117 (argsT A117 tp117 xs)
def tu80 := U t80
theorem te80 : ta80 tu117 = t80 := (by rw [show tu117 = t117 from U_eq _] : ta80 tu117 = ta80 t117).trans rfl
def tw80 (vs : List Vr) : Rs := ta80 tu117 (vL vs 0) (vL vs 1)
def tp80 (vs : List Vr) : Rs := tu80 (vL vs 0) (vL vs 1)
theorem tpw80 : tp80 = tw80 := funext fun vs => by unfold tp80 tw80; rw [show tu80 = t80 from U_eq _, te80]
def th80 := fun xs => gOf zr80 zo80 (argsT A80 tp80 xs)
def tu40 := U t40
theorem te40 : ta40 tu80 = t40 := (by rw [show tu80 = t80 from U_eq _] : ta40 tu80 = ta40 t80).trans rfl
def tw40 (vs : List Vr) : Rs := ta40 tu80 (vI vs 0) (vI vs 1) (vI vs 2) (vI vs 3) (vI vs 4) (vI vs 5) (vI vs 6) (vB vs 7) (vL vs 8) (vS vs 9) (vI vs 10) (vI vs 11) (vI vs 12) (vI vs 13) (vI vs 14) (vI vs 15) (vI vs 16) (vB vs 17) (vL vs 18) (vS vs 19)
def tp40 (vs : List Vr) : Rs := tu40 (vI vs 0) (vI vs 1) (vI vs 2) (vI vs 3) (vI vs 4) (vI vs 5) (vI vs 6) (vB vs 7) (vL vs 8) (vS vs 9) (vI vs 10) (vI vs 11) (vI vs 12) (vI vs 13) (vI vs 14) (vI vs 15) (vI vs 16) (vB vs 17) (vL vs 18) (vS vs 19)
theorem tpw40 : tp40 = tw40 := funext fun vs => by unfold tp40 tw40; rw [show tu40 = t40 from U_eq _, te40]
def th40 := fun xs => gOf zr40 zo40 (argsT A40 tp40 xs)
def tu98 := U t98
theorem te98 : t98 = t98 := rfl
def tw98 (vs : List Vr) : Rs := t98 (vI vs 0)
def tp98 (vs : List Vr) : Rs := tu98 (vI vs 0)
theorem tpw98 : tp98 = tw98 := funext fun vs => by unfold tp98 tw98; rw [show tu98 = t98 from U_eq _, te98]
def th98 := fun xs => gOf zr98 zo98 (argsT A98 tp98 xs)
def tu100 := U t100
theorem te100 : ta100 tu98 = t100 := (by rw [show tu98 = t98 from U_eq _] : ta100 tu98 = ta100 t98).trans rfl
def tw100 (vs : List Vr) : Rs := ta100 tu98 (vL vs 0) (vI vs 1)
def tp100 (vs : List Vr) : Rs := tu100 (vL vs 0) (vI vs 1)
theorem tpw100 : tp100 = tw100 := funext fun vs => by unfold tp100 tw100; rw [show tu100 = t100 from U_eq _, te100]
def th100 := fun xs => gOf zr100 zo100 (argsT A100 tp100 xs)
def tu56 := U t56
theorem te56 : ta56 tu100 = t56 := (by rw [show tu100 = t100 from U_eq _] : ta56 tu100 = ta56 t100).trans rfl
def tw56 (vs : List Vr) : Rs := ta56 tu100 (vI vs 0) (vI vs 1) (vI vs 2) (vI vs 3) (vI vs 4) (vI vs 5) (vI vs 6) (vB vs 7) (vL vs 8) (vS vs 9) (vI vs 10)
def tp56 (vs : List Vr) : Rs := tu56 (vI vs 0) (vI vs 1) (vI vs 2) (vI vs 3) (vI vs 4) (vI vs 5) (vI vs 6) (vB vs 7) (vL vs 8) (vS vs 9) (vI vs 10)
theorem tpw56 : tp56 = tw56 := funext fun vs => by unfold tp56 tw56; rw [show tu56 = t56 from U_eq _, te56]
def th56 := fun xs => gOf zr56 zo56 (argsT A56 tp56 xs)
def tu101 := U t101
theorem te101 : ta101 tu98 = t101 := (by rw [show tu98 = t98 from U_eq _] : ta101 tu98 = ta101 t98).trans rfl
def tw101 (vs : List Vr) : Rs := ta101 tu98 (vL vs 0) (vI vs 1)
def tp101 (vs : List Vr) : Rs := tu101 (vL vs 0) (vI vs 1)
theorem tpw101 : tp101 = tw101 := funext fun vs => by unfold tp101 tw101; rw [show tu101 = t101 from U_eq _, te101]
def th101 := fun xs => gOf zr101 zo101 (argsT A101 tp101 xs)
def tu57 := U t57
theorem te57 : ta57 tu101 = t57 := (by rw [show tu101 = t101 from U_eq _] : ta57 tu101 = ta57 t101).trans rfl
def tw57 (vs : List Vr) : Rs := ta57 tu101 (vI vs 0) (vI vs 1) (vI vs 2) (vI vs 3) (vI vs 4) (vI vs 5) (vI vs 6) (vB vs 7) (vL vs 8) (vS vs 9) (vI vs 10)
def tp57 (vs : List Vr) : Rs := tu57 (vI vs 0) (vI vs 1) (vI vs 2) (vI vs 3) (vI vs 4) (vI vs 5) (vI vs 6) (vB vs 7) (vL vs 8) (vS vs 9) (vI vs 10)
theorem tpw57 : tp57 = tw57 := funext fun vs => by unfold tp57 tw57; rw [show tu57 = t57 from U_eq _, te57]
def th57 := fun xs => gOf zr57 zo57 (argsT A57 tp57 xs)
def tu13 := U t13
theorem te13 : ta13 tu40 tu54 tu55 tu56 tu57 = t13 := (by rw [show tu40 = t40 from U_eq _, show tu54 = t54 from U_eq _, show tu55 = t55 from U_eq _, show tu56 = t56 from U_eq _, show tu57 = t57 from U_eq _] : ta13 tu40 tu54 tu55 tu56 tu57 = ta13 t40 t54 t55 t56 t57).trans rfl
def tw13 (vs : List Vr) : Rs := ta13 tu40 tu54 tu55 tu56 tu57 (vS vs 0)
def tp13 (vs : List Vr) : Rs := tu13 (vS vs 0)
theorem tpw13 : tp13 = tw13 := funext fun vs => by unfold tp13 tw13; rw [show tu13 = t13 from U_eq _, te13]
def th13 := fun xs => gOf zr13 zo13 (argsT A13 tp13 xs)
def sg60 : Sig := ⟨[.bor, .bor, .bor], .sc [.one (.b false)], [0, 1, 2, 6], []⟩
def sg89 : Sig := ⟨[.bor], .sc [.one (.s ⟨#[]⟩)], [0, 2, 3, 6, 9], []⟩
def sg84 : Sig := ⟨[.bor], .sc [.one (.i .i64 0), .one (.i .i64 0)], [0, 2, 3, 4, 5, 6, 14, 20, 36], [(9, [(0, 0, []), (1, 0, []), (2, 0, []), (3, 0, []), (4, 0, []), (5, 0, [])])]⟩
def sg92 : Sig := ⟨[.bor, .bor, .bor], .fresh [[some (3, 1)], [none]], [0, 1, 2, 6, 7, 8, 9, 10, 11, 15, 25, 35], []⟩
def sg93 : Sig := ⟨[.bor, .bor], .sc [.one (.s ⟨#[]⟩), .one (.i .i64 0)], [0, 1, 4, 5, 6, 7, 25], [(4, [(0, 0, []), (1, 0, []), (2, 0, []), (3, 0, []), (4, 0, []), (5, 0, []), (6, 0, []), (7, 0, []), (8, 0, []), (9, 0, []), (10, 0, []), (11, 0, []), (12, 0, []), (13, 0, []), (14, 0, [])])]⟩
def sg72 : Sig := ⟨[.bor], .sc [.one (.b false)], [0, 2], []⟩
def sg73 : Sig := ⟨[.bor, .bor], .sc [.one (.b false)], [0, 1, 4, 6], []⟩
def sg74 : Sig := ⟨[.bor, .bor, .bor], .sc [.one (.b false)], [0, 1, 2, 6, 7, 9, 13, 33], []⟩
def sg114 : Sig := ⟨[.bor, .bor], .sc [.one (.b false)], [0, 1, 4, 5, 10, 14, 25], [(6, [(0, 0, []), (1, 0, []), (2, 0, []), (3, 0, []), (4, 0, []), (5, 0, []), (6, 0, []), (7, 0, []), (8, 0, [])])]⟩
def sg75 : Sig := ⟨[.bor, .bor], .sc [.one (.b false)], [0, 1, 2, 3, 4, 65], []⟩
def sg37 : Sig := ⟨[.bor], .sc [.one (.b false)], [0, 1, 2, 3, 4, 5, 6, 32, 40, 41, 64, 74, 132, 146], []⟩
def sg90 : Sig := ⟨[.bor], .sc [.one (.i .i64 0)], [0, 2, 3], []⟩
def sg48 : Sig := ⟨[.bor], .sc [.one (.s ⟨#[]⟩)], [0, 1, 2, 3, 4, 7, 49], [(3, [(0, 0, []), (1, 0, []), (2, 0, []), (3, 0, []), (4, 0, []), (5, 0, []), (6, 0, []), (7, 0, []), (8, 0, []), (9, 0, []), (10, 0, []), (11, 0, []), (12, 0, []), (13, 0, []), (14, 0, []), (15, 0, []), (16, 0, []), (17, 0, []), (18, 0, []), (19, 0, []), (20, 0, []), (21, 0, []), (22, 0, []), (23, 0, []), (24, 0, []), (25, 0, []), (26, 0, []), (27, 0, []), (28, 0, []), (29, 0, []), (30, 0, []), (31, 0, []), (32, 0, []), (33, 0, []), (34, 0, []), (35, 0, []), (36, 0, []), (37, 0, [])]), (7, [(0, 0, []), (1, 0, []), (2, 0, []), (3, 0, []), (4, 0, []), (5, 0, []), (6, 0, []), (7, 0, []), (8, 0, []), (9, 0, []), (10, 0, []), (11, 0, []), (12, 0, []), (13, 0, []), (14, 0, []), (15, 0, []), (16, 0, []), (17, 0, []), (18, 0, []), (19, 0, []), (20, 0, []), (21, 0, []), (22, 0, []), (23, 0, []), (24, 0, []), (25, 1, [])])]⟩
def sg54 : Sig := ⟨[.bor], .fresh [[none, none, none, none, none, none, none, none, some (119, 2), none], [none]], [0, 2, 3, 4, 5, 6, 7, 8, 9, 10, 11, 24, 56, 66, 75, 95], [(4, [(26, 2, []), (0, 0, []), (1, 0, []), (2, 0, []), (3, 0, []), (4, 0, []), (5, 0, []), (6, 0, []), (7, 0, []), (8, 0, []), (9, 0, []), (10, 0, []), (11, 0, []), (12, 0, []), (13, 0, []), (14, 0, []), (15, 0, []), (16, 0, []), (17, 0, []), (18, 0, []), (19, 0, []), (20, 0, []), (21, 0, []), (22, 0, []), (23, 0, []), (24, 0, []), (25, 0, []), (27, 1, [])]), (14, [(0, 0, []), (1, 0, []), (2, 0, []), (3, 0, []), (4, 0, []), (5, 0, []), (6, 0, []), (7, 1, [0, 1]), (8, 1, []), (9, 0, []), (10, 1, [])]), (1000005, [(384, 8, [119, 2])])]⟩
def sg86 : Sig := ⟨[.bor], .sc [.one (.i .i64 0), .one (.i .i64 0)], [0, 2, 3, 4, 5, 6, 14, 29, 35], []⟩
def sg95 : Sig := ⟨[.ptr [none, none]], .sc [.one (.i .i64 0)], [0, 2, 3, 4, 20], []⟩
def sg99 : Sig := ⟨[.ptr [none, none], .bor], .sc [.one (.i .i64 0)], [0, 1, 4, 5, 10], []⟩
def sg121 : Sig := ⟨[.ptr [none, none], .bor], .sc [.one (.s ⟨#[]⟩)], [0, 1, 4, 5, 18], []⟩
def sg97 : Sig := ⟨[.ptr [none, none]], .sc [.one (.s ⟨#[]⟩)], [0, 2], []⟩
def sg62 : Sig := ⟨[.bor, .bor, .bor], .sc [.one (.b false)], [0, 1, 2, 6], []⟩
def sg77 : Sig := ⟨[.bor, .bor], .sc [.one (.b false)], [0, 1, 4], []⟩
def sg78 : Sig := ⟨[.rptr 10], .sc [.one (.b false)], [0, 2, 3, 5, 14, 15, 16, 17, 34], [(5, [(0, 0, []), (1, 0, []), (2, 0, []), (3, 0, []), (4, 0, []), (5, 0, []), (6, 0, []), (7, 0, []), (8, 0, []), (9, 0, []), (10, 0, []), (11, 0, []), (12, 0, []), (13, 0, []), (14, 0, [])]), (9, [(0, 0, []), (1, 0, []), (2, 0, []), (3, 0, []), (4, 0, []), (5, 0, []), (6, 0, []), (7, 0, []), (8, 0, []), (9, 0, []), (10, 0, []), (11, 0, []), (12, 0, []), (13, 0, []), (14, 0, []), (15, 0, []), (16, 0, []), (17, 0, []), (18, 0, []), (19, 0, [])])]⟩
def sg116 : Sig := ⟨[.bor, .bor], .sc [.one (.b false)], [0, 1, 4, 5, 10, 12, 13, 14, 24], [(6, [(0, 0, []), (1, 0, []), (2, 0, []), (3, 0, []), (4, 0, []), (5, 0, []), (6, 0, []), (7, 0, []), (8, 0, [])])]⟩
def sg79 : Sig := ⟨[.bor, .bor], .sc [.one (.b false)], [0, 1, 2, 3, 4], []⟩
def sg39 : Sig := ⟨[.bor], .sc [.one (.b false)], [0, 1, 2, 3, 4, 35, 36, 59, 64, 101, 115], [(6, [(0, 0, []), (1, 0, []), (2, 0, []), (3, 0, []), (4, 0, []), (5, 1, [2, 3]), (6, 0, []), (7, 1, [])]), (11, [(0, 0, []), (1, 0, []), (2, 0, []), (3, 0, []), (4, 0, []), (5, 0, []), (6, 0, []), (7, 0, []), (8, 0, []), (9, 1, [2, 3, 4, 5, 6, 7]), (10, 0, []), (11, 1, [4, 5, 6, 7]), (12, 0, []), (13, 1, [6, 7]), (14, 0, []), (15, 1, [])]), (14, [(0, 0, []), (1, 0, []), (2, 0, []), (3, 0, []), (4, 0, []), (5, 1, [2, 3]), (6, 0, []), (7, 1, [])]), (17, [(0, 0, []), (1, 0, []), (2, 0, []), (3, 0, []), (4, 0, []), (5, 0, []), (6, 0, []), (7, 1, [2, 3, 4, 5]), (8, 0, []), (9, 1, [4, 5]), (10, 0, []), (11, 1, [])])]⟩
def sg55 : Sig := ⟨[.bor], .fresh [[none, none, none, none, none, none, none, none, some (119, 2), none], [none]], [0, 2, 3, 4, 5, 6, 7, 14, 47, 48, 49, 80], [(1000013, [(320, 8, [119, 2])])]⟩
def sg117 : Sig := ⟨[.bor, .bor], .sc [.one (.b false)], [0, 1, 2, 3, 4, 9, 14], []⟩
def sg80 : Sig := ⟨[.bor, .bor], .sc [.one (.b false)], [0, 1, 4, 5, 10, 14, 26], [(6, [(0, 0, []), (1, 0, []), (2, 0, []), (3, 0, []), (4, 0, []), (5, 0, []), (6, 0, []), (7, 0, []), (8, 0, []), (9, 0, [])])]⟩
def sg40 : Sig := ⟨[.bor, .bor], .sc [.one (.b false)], [0, 1, 2, 3, 4, 9, 14, 19, 24, 29, 34, 39, 44, 50, 55], []⟩
def sg98 : Sig := ⟨[.bor], .sc [.one (.s ⟨#[]⟩)], [0, 2, 3, 5, 7], []⟩
def sg100 : Sig := ⟨[.io [some (999999999, 2)], .bor], .sc [.one (.i .i64 0)], [0, 1, 4, 5, 9], []⟩
def sg56 : Sig := ⟨[.io [none, none, none, none, none, none, none, none, some (999999999, 2), none], .bor], .sc [.one (.i .i64 0)], [0, 1, 2, 4], []⟩
def sg101 : Sig := ⟨[.bor, .bor], .sc [.one (.i .i64 0)], [0, 1, 4, 5, 9, 18, 28], [(7, [(0, 0, []), (1, 0, []), (2, 0, []), (3, 0, []), (4, 0, []), (5, 0, []), (6, 0, []), (7, 0, [])])]⟩
def sg57 : Sig := ⟨[.bor, .bor], .sc [.one (.i .i64 0)], [0, 1, 2, 4, 10], []⟩
def sg13 : Sig := ⟨[.bor], .sc [.one (.b false)], [0, 2, 3, 4, 5, 6, 7, 8, 9, 10, 13, 32, 40, 43, 57, 62, 65], []⟩
def sig : Nat → Sig := lkF ⟨[], .fresh [], [], []⟩ [(60, sg60), (89, sg89), (84, sg84), (92, sg92), (93, sg93), (72, sg72), (73, sg73), (74, sg74), (114, sg114), (75, sg75), (37, sg37), (90, sg90), (48, sg48), (54, sg54), (86, sg86), (95, sg95), (99, sg99), (121, sg121), (97, sg97), (62, sg62), (77, sg77), (78, sg78), (116, sg116), (79, sg79), (39, sg39), (55, sg55), (117, sg117), (80, sg80), (40, sg40), (98, sg98), (100, sg100), (56, sg56), (101, sg101), (57, sg57), (13, sg13)]
def dep : Nat → Nat := lkF 0 [(60, 1), (89, 2), (84, 3), (92, 4), (93, 5), (72, 2), (73, 2), (74, 2), (114, 1), (75, 2), (37, 3), (90, 1), (48, 4), (54, 6), (86, 1), (95, 2), (99, 3), (121, 1), (97, 3), (62, 1), (77, 2), (78, 2), (116, 1), (79, 2), (39, 3), (55, 4), (117, 1), (80, 2), (40, 3), (98, 1), (100, 2), (56, 3), (101, 2), (57, 3), (13, 7)]
def gT : List (Nat × (List DV → Bool × List DV × List (List D))) := [(60, th60), (89, th89), (84, th84), (92, th92), (93, th93), (72, th72), (73, th73), (74, th74), (114, th114), (75, th75), (37, th37), (90, th90), (48, th48), (54, th54), (86, th86), (95, th95), (99, th99), (121, th121), (97, th97), (62, th62), (77, th77), (78, th78), (116, th116), (79, th79), (39, th39), (55, th55), (117, th117), (80, th80), (40, th40), (98, th98), (100, th100), (56, th56), (101, th101), (57, th57), (13, th13)]
def G : Nat → List DV → Bool × List DV × List (List D) := lkF (fun _ => (false, [], [])) gT
noncomputable def C60 : Ctx := ⟨Try.prog, sig, Gd G dep (dep 60), (sig 60).keep, (sig 60).ord⟩
noncomputable def c60 : Code := Try.f60.body.getD .skip
def ST60 : LT := []
theorem r60 : ∀ vs, tw60 vs = bodyK C60 (lkS ST60) Try.f60 (sig 60) c60 (fillAs A60 0 vs) := fun vs => by kernel_rfl
theorem ok60 : OkS sig (Gd G dep (dep 60)) 60 th60 := fun xs q h => body_ok Try.func60 (c := c60) rfl A60 tw60 (sums_of (C := C60) (t := ST60) trivial) r60 (by rw [← tpw60]; exact opt_gOf h)
noncomputable def C89 : Ctx := ⟨Try.prog, sig, Gd G dep (dep 89), (sig 89).keep, (sig 89).ord⟩
noncomputable def c89 : Code := Try.f89.body.getD .skip
def T89o1 : TSt := ⟨[dI, dS, .own 448, dB, .any], [(448, .row 5 1)]⟩
def X89o1e1 : TSt := ⟨[dI, dS, .own 448, dB, dB], [(448, .row 5 1)]⟩
def L89o1 (m : Nat) (vs : List Vr) (K : KT) : Rs := la89o1 tu60 (vS vs 1) (vB vs 2) (fun n16 b17 l18 => K (.exit 0) (fillS X89o1e1 [.i (n16), jS vs 1, jB vs 2, .b (b17), .l (l18)])) m (vI vs 0) (vV vs 3) (vL vs 4)
def ST89 : LT := [(1, sumT T89o1 (L89o1 KK))]
noncomputable def b89o1 : Code := match nodeAt c89 1 with | some (.loop a) => a | _ => .skip
theorem q89o1 : Qp L89o1 C89 ST89 b89o1 2 T89o1 := fun m vs K => by kernel_rfl
theorem o89o1 : SumOk C89 KK (sumT T89o1 (L89o1 KK)) (.loop b89o1) := loop_ok T89o1 L89o1 (sums_of (t := ST89) ⟨fun _ _ h => absurd h (by decide), trivial⟩) (fun _ _ => rfl) q89o1
theorem r89 : ∀ vs, tw89 vs = bodyK C89 (lkS ST89) Try.f89 (sig 89) c89 (fillAs A89 0 vs) := fun vs => by kernel_rfl
theorem ok89 : OkS sig (Gd G dep (dep 89)) 89 th89 := fun xs q h => body_ok Try.func89 (c := c89) rfl A89 tw89 (sums_of (C := C89) (t := ST89) ⟨sum_in (c' := .loop b89o1) (by kernel_rfl) (o89o1), trivial⟩) r89 (by rw [← tpw89]; exact opt_gOf h)
noncomputable def C84 : Ctx := ⟨Try.prog, sig, Gd G dep (dep 84), (sig 84).keep, (sig 84).ord⟩
noncomputable def c84 : Code := Try.f84.body.getD .skip
def T84o2 : TSt := ⟨[dS, dI, dI, dI, dI, dI, dB, .any, .any], []⟩
def X84o2e1 : TSt := ⟨[dS, dI, dI, dI, dI, dI, dB, dB, .any], []⟩
def L84o2 (m : Nat) (vs : List Vr) (K : KT) : Rs := la84o2 tu89 (vS vs 0) (vI vs 1) (vI vs 2) (vI vs 3) (vB vs 6) (fun n71 n72 b73 v74 => K (.exit 2) (fillS X84o2e1 [jS vs 0, jI vs 1, jI vs 2, jI vs 3, .i (n71), .i (n72), jB vs 6, .b (b73), .v (v74)])) m (vI vs 4) (vI vs 5) (vV vs 7) (vV vs 8)
def T84o0 : TSt := ⟨[dS, dI, dI, dI, .any, .any, .any, .any, .any], []⟩
def X84o0e1 : TSt := ⟨[dS, dI, dI, dI, dI, dI, dB, dB, dB], []⟩
def X84o0e2 : TSt := ⟨[dS, dI, dI, dI, .any, .any, dB, .any, .any], []⟩
def L84o0 (m : Nat) (vs : List Vr) (K : KT) : Rs := la84o0 tu89 (vS vs 0) (vI vs 1) (vI vs 2) (fun n88 n89 n90 b91 b92 b93 => K .ret (fillS X84o0e1 [jS vs 0, .i (n88), .i (n89), .i (n89), .i (n88), .i (n90), .b (b91), .b (b92), .b (b93)])) (fun n94 v95 v96 b97 v98 v99 => K (.exit 0) (fillS X84o0e2 [jS vs 0, jI vs 1, jI vs 2, .i (n94), .v (v95), .v (v96), .b (b97), .v (v98), .v (v99)])) m (vI vs 3) (vV vs 4) (vV vs 5) (vV vs 6) (vV vs 7) (vV vs 8)
def ST84 : LT := [(2, sumT T84o2 (L84o2 KK)), (0, sumT T84o0 (L84o0 KK))]
noncomputable def b84o2 : Code := match nodeAt c84 2 with | some (.loop a) => a | _ => .skip
noncomputable def b84o0 : Code := match nodeAt c84 0 with | some (.loop a) => a | _ => .skip
theorem q84o2 : Qp L84o2 C84 ST84 b84o2 3 T84o2 := fun m vs K => by kernel_rfl
theorem o84o2 : SumOk C84 KK (sumT T84o2 (L84o2 KK)) (.loop b84o2) := loop_ok T84o2 L84o2 (sums_of (t := ST84) ⟨fun _ _ h => absurd h (by decide), fun _ _ h => absurd h (by decide), trivial⟩) (fun _ _ => rfl) q84o2
theorem q84o0 : Qp L84o0 C84 ST84 b84o0 1 T84o0 := fun m vs K => by kernel_rfl
theorem o84o0 : SumOk C84 KK (sumT T84o0 (L84o0 KK)) (.loop b84o0) := loop_ok T84o0 L84o0 (sums_of (t := ST84) ⟨sum_in (c' := .loop b84o2) (by kernel_rfl) (o84o2), fun _ _ h => absurd h (by decide), trivial⟩) (fun _ _ => rfl) q84o0
theorem r84 : ∀ vs, tw84 vs = bodyK C84 (lkS ST84) Try.f84 (sig 84) c84 (fillAs A84 0 vs) := fun vs => by kernel_rfl
theorem ok84 : OkS sig (Gd G dep (dep 84)) 84 th84 := fun xs q h => body_ok Try.func84 (c := c84) rfl A84 tw84 (sums_of (C := C84) (t := ST84) ⟨sum_in (c' := .loop b84o2) (by kernel_rfl) (o84o2), sum_in (c' := .loop b84o0) (by kernel_rfl) (o84o0), trivial⟩) r84 (by rw [← tpw84]; exact opt_gOf h)
noncomputable def C92 : Ctx := ⟨Try.prog, sig, Gd G dep (dep 92), (sig 92).keep, (sig 92).ord⟩
noncomputable def c92 : Code := Try.f92.body.getD .skip
def T92o0 : TSt := ⟨[dS, dI, dI, .nils, dI, .own 768, dI, .any, .any, .any, .any, .any], [(768, .row 3 1)]⟩
def X92o0e1 : TSt := ⟨[dS, dI, dI, .own 768, dI, .own 768, dI, .any, .any, dB, dB, .any], [(768, .row 3 1)]⟩
def X92o0e2 : TSt := ⟨[dS, dI, dI, .own 768, dI, .own 768, dI, dI, dI, dB, dB, dB], [(768, .row 3 1)]⟩
def X92o0e3 : TSt := ⟨[dS, dI, dI, .nils, dI, .own 768, dI, .any, .any, dB, .any, .any], [(768, .row 3 1)]⟩
def L92o0 (m : Nat) (vs : List Vr) (K : KT) : Rs := la92o0 tu84 (vS vs 0) (vI vs 2) (vI vs 3) (fun n32 n33 v34 v35 b36 b37 v38 l39 => K .ret (fillS X92o0e1 [jS vs 0, .i (n32), jI vs 2, .i ((-1 : Int)), .i (n33), .v (v34), .v (v35), .b (b36), .b (b37), .v (v38), .l (l39)])) (fun n40 n41 n42 n43 b44 b45 b46 l47 => K .ret (fillS X92o0e2 [jS vs 0, .i (n40), jI vs 2, .i ((-1 : Int)), .i (n41), .i (n42), .i (n43), .b (b44), .b (b45), .b (b46), .l (l47)])) (fun n48 n49 v50 v51 b52 v53 v54 l55 => K (.exit 0) (fillS X92o0e3 [jS vs 0, .i (n48), jI vs 2, jI vs 3, .i (n49), .v (v50), .v (v51), .b (b52), .v (v53), .v (v54), .l (l55)])) m (vI vs 1) (vI vs 4) (vV vs 5) (vV vs 6) (vV vs 7) (vV vs 8) (vV vs 9) (vL vs 10)
def ST92 : LT := [(0, sumT T92o0 (L92o0 KK))]
noncomputable def b92o0 : Code := match nodeAt c92 0 with | some (.loop a) => a | _ => .skip
theorem q92o0 : Qp L92o0 C92 ST92 b92o0 1 T92o0 := fun m vs K => by kernel_rfl
theorem o92o0 : SumOk C92 KK (sumT T92o0 (L92o0 KK)) (.loop b92o0) := loop_ok T92o0 L92o0 (sums_of (t := ST92) ⟨fun _ _ h => absurd h (by decide), trivial⟩) (fun _ _ => rfl) q92o0
theorem r92 : ∀ vs, tw92 vs = bodyK C92 (lkS ST92) Try.f92 (sig 92) c92 (fillAs A92 0 vs) := fun vs => by kernel_rfl
theorem ok92 : OkS sig (Gd G dep (dep 92)) 92 th92 := fun xs q h => body_ok Try.func92 (c := c92) rfl A92 tw92 (sums_of (C := C92) (t := ST92) ⟨sum_in (c' := .loop b92o0) (by kernel_rfl) (o92o0), trivial⟩) r92 (by rw [← tpw92]; exact opt_gOf h)
noncomputable def C93 : Ctx := ⟨Try.prog, sig, Gd G dep (dep 93), (sig 93).keep, (sig 93).ord⟩
noncomputable def c93 : Code := Try.f93.body.getD .skip
def ST93 : LT := []
theorem r93 : ∀ vs, tw93 vs = bodyK C93 (lkS ST93) Try.f93 (sig 93) c93 (fillAs A93 0 vs) := fun vs => by kernel_rfl
theorem ok93 : OkS sig (Gd G dep (dep 93)) 93 th93 := fun xs q h => body_ok Try.func93 (c := c93) rfl A93 tw93 (sums_of (C := C93) (t := ST93) trivial) r93 (by rw [← tpw93]; exact opt_gOf h)
noncomputable def C72 : Ctx := ⟨Try.prog, sig, Gd G dep (dep 72), (sig 72).keep, (sig 72).ord⟩
noncomputable def c72 : Code := Try.f72.body.getD .skip
def ST72 : LT := []
theorem r72 : ∀ vs, tw72 vs = bodyK C72 (lkS ST72) Try.f72 (sig 72) c72 (fillAs A72 0 vs) := fun vs => by kernel_rfl
theorem ok72 : OkS sig (Gd G dep (dep 72)) 72 th72 := fun xs q h => body_ok Try.func72 (c := c72) rfl A72 tw72 (sums_of (C := C72) (t := ST72) trivial) r72 (by rw [← tpw72]; exact opt_gOf h)
noncomputable def C73 : Ctx := ⟨Try.prog, sig, Gd G dep (dep 73), (sig 73).keep, (sig 73).ord⟩
noncomputable def c73 : Code := Try.f73.body.getD .skip
def ST73 : LT := []
theorem r73 : ∀ vs, tw73 vs = bodyK C73 (lkS ST73) Try.f73 (sig 73) c73 (fillAs A73 0 vs) := fun vs => by kernel_rfl
theorem ok73 : OkS sig (Gd G dep (dep 73)) 73 th73 := fun xs q h => body_ok Try.func73 (c := c73) rfl A73 tw73 (sums_of (C := C73) (t := ST73) trivial) r73 (by rw [← tpw73]; exact opt_gOf h)
noncomputable def C74 : Ctx := ⟨Try.prog, sig, Gd G dep (dep 74), (sig 74).keep, (sig 74).ord⟩
noncomputable def c74 : Code := Try.f74.body.getD .skip
def T74o1 : TSt := ⟨[dL, dI, dI, dB, dI, dB, .any, .any], []⟩
def X74o1e1 : TSt := ⟨[dL, dI, dI, dB, dI, dB, dB, dB], []⟩
def X74o1e2 : TSt := ⟨[dL, dI, dI, dB, dI, dB, dB, .any], []⟩
def L74o1 (m : Nat) (vs : List Vr) (K : KT) : Rs := la74o1 tu60 (vL vs 0) (vI vs 2) (vB vs 3) (vB vs 5) (fun n27 n28 b29 b30 => K .ret (fillS X74o1e1 [jL vs 0, .i (n27), jI vs 2, .b (false), .i (n28), jB vs 5, .b (b29), .b (b30)])) (fun n31 n32 b33 v34 => K (.exit 0) (fillS X74o1e2 [jL vs 0, .i (n31), jI vs 2, jB vs 3, .i (n32), jB vs 5, .b (b33), .v (v34)])) m (vI vs 1) (vI vs 4) (vV vs 6) (vV vs 7)
def ST74 : LT := [(1, sumT T74o1 (L74o1 KK))]
noncomputable def b74o1 : Code := match nodeAt c74 1 with | some (.loop a) => a | _ => .skip
theorem q74o1 : Qp L74o1 C74 ST74 b74o1 2 T74o1 := fun m vs K => by kernel_rfl
theorem o74o1 : SumOk C74 KK (sumT T74o1 (L74o1 KK)) (.loop b74o1) := loop_ok T74o1 L74o1 (sums_of (t := ST74) ⟨fun _ _ h => absurd h (by decide), trivial⟩) (fun _ _ => rfl) q74o1
theorem r74 : ∀ vs, tw74 vs = bodyK C74 (lkS ST74) Try.f74 (sig 74) c74 (fillAs A74 0 vs) := fun vs => by kernel_rfl
theorem ok74 : OkS sig (Gd G dep (dep 74)) 74 th74 := fun xs q h => body_ok Try.func74 (c := c74) rfl A74 tw74 (sums_of (C := C74) (t := ST74) ⟨sum_in (c' := .loop b74o1) (by kernel_rfl) (o74o1), trivial⟩) r74 (by rw [← tpw74]; exact opt_gOf h)
noncomputable def C114 : Ctx := ⟨Try.prog, sig, Gd G dep (dep 114), (sig 114).keep, (sig 114).ord⟩
noncomputable def c114 : Code := Try.f114.body.getD .skip
def T114o1 : TSt := ⟨[dL, dL, dB, dI, dB, .any, .any], []⟩
def X114o1e1 : TSt := ⟨[dL, dL, dB, dI, dB, dB, dB], []⟩
def X114o1e2 : TSt := ⟨[dL, dL, dB, dI, dB, dB, .any], []⟩
def L114o1 (m : Nat) (vs : List Vr) (K : KT) : Rs := l114o1 (vL vs 0) (vL vs 1) (vB vs 2) (vB vs 4) (fun n22 b23 b24 => K .ret (fillS X114o1e1 [jL vs 0, jL vs 1, .b (false), .i (n22), jB vs 4, .b (b23), .b (b24)])) (fun n25 b26 v27 => K (.exit 0) (fillS X114o1e2 [jL vs 0, jL vs 1, jB vs 2, .i (n25), jB vs 4, .b (b26), .v (v27)])) m (vI vs 3) (vV vs 5) (vV vs 6)
def ST114 : LT := [(1, sumT T114o1 (L114o1 KK))]
noncomputable def b114o1 : Code := match nodeAt c114 1 with | some (.loop a) => a | _ => .skip
theorem q114o1 : Qp L114o1 C114 ST114 b114o1 2 T114o1 := fun m vs K => by kernel_rfl
theorem o114o1 : SumOk C114 KK (sumT T114o1 (L114o1 KK)) (.loop b114o1) := loop_ok T114o1 L114o1 (sums_of (t := ST114) ⟨fun _ _ h => absurd h (by decide), trivial⟩) (fun _ _ => rfl) q114o1
theorem r114 : ∀ vs, tw114 vs = bodyK C114 (lkS ST114) Try.f114 (sig 114) c114 (fillAs A114 0 vs) := fun vs => by kernel_rfl
theorem ok114 : OkS sig (Gd G dep (dep 114)) 114 th114 := fun xs q h => body_ok Try.func114 (c := c114) rfl A114 tw114 (sums_of (C := C114) (t := ST114) ⟨sum_in (c' := .loop b114o1) (by kernel_rfl) (o114o1), trivial⟩) r114 (by rw [← tpw114]; exact opt_gOf h)
noncomputable def C75 : Ctx := ⟨Try.prog, sig, Gd G dep (dep 75), (sig 75).keep, (sig 75).ord⟩
noncomputable def c75 : Code := Try.f75.body.getD .skip
def ST75 : LT := []
theorem r75 : ∀ vs, tw75 vs = bodyK C75 (lkS ST75) Try.f75 (sig 75) c75 (fillAs A75 0 vs) := fun vs => by kernel_rfl
theorem ok75 : OkS sig (Gd G dep (dep 75)) 75 th75 := fun xs q h => body_ok Try.func75 (c := c75) rfl A75 tw75 (sums_of (C := C75) (t := ST75) trivial) r75 (by rw [← tpw75]; exact opt_gOf h)
noncomputable def C37 : Ctx := ⟨Try.prog, sig, Gd G dep (dep 37), (sig 37).keep, (sig 37).ord⟩
noncomputable def c37 : Code := Try.f37.body.getD .skip
def ST37 : LT := []
theorem r37 : ∀ vs, tw37 vs = bodyK C37 (lkS ST37) Try.f37 (sig 37) c37 (fillAs A37 0 vs) := fun vs => by kernel_rfl
theorem ok37 : OkS sig (Gd G dep (dep 37)) 37 th37 := fun xs q h => body_ok Try.func37 (c := c37) rfl A37 tw37 (sums_of (C := C37) (t := ST37) trivial) r37 (by rw [← tpw37]; exact opt_gOf h)
noncomputable def C90 : Ctx := ⟨Try.prog, sig, Gd G dep (dep 90), (sig 90).keep, (sig 90).ord⟩
noncomputable def c90 : Code := Try.f90.body.getD .skip
def ST90 : LT := []
theorem r90 : ∀ vs, tw90 vs = bodyK C90 (lkS ST90) Try.f90 (sig 90) c90 (fillAs A90 0 vs) := fun vs => by kernel_rfl
theorem ok90 : OkS sig (Gd G dep (dep 90)) 90 th90 := fun xs q h => body_ok Try.func90 (c := c90) rfl A90 tw90 (sums_of (C := C90) (t := ST90) trivial) r90 (by rw [← tpw90]; exact opt_gOf h)
noncomputable def C48 : Ctx := ⟨Try.prog, sig, Gd G dep (dep 48), (sig 48).keep, (sig 48).ord⟩
noncomputable def c48 : Code := Try.f48.body.getD .skip
def T48o1 : TSt := ⟨[.agg [dI, dI, dI, dI, dI, dI, dI, dB, dL, dS], .ptr 64 0, dS, dS, dI, dB, .any], [(64, .box [dI, dI, dI, dI, dI, dI, dI, dB, dL, dS])]⟩
def X48o1e1 : TSt := ⟨[.agg [dI, dI, dI, dI, dI, dI, dI, dB, dL, dS], .ptr 64 0, dS, dS, dI, dB, dB], [(64, .box [dI, dI, dI, dI, dI, dI, dI, dB, dL, dS])]⟩
def L48o1 (m : Nat) (vs : List Vr) (K : KT) : Rs := la48o1 tu37 tu89 tu90 (vI vs 0) (vI vs 1) (vI vs 2) (vI vs 3) (vI vs 4) (vI vs 5) (vI vs 6) (vB vs 7) (vL vs 8) (vS vs 9) (vS vs 10) (vB vs 13) (vI vs 15) (vI vs 16) (vI vs 17) (vI vs 18) (vI vs 19) (vI vs 20) (vI vs 21) (vB vs 22) (vL vs 23) (vS vs 24) (fun s85 n86 b87 => K (.exit 0) (fillS X48o1e1 [jI vs 0, jI vs 1, jI vs 2, jI vs 3, jI vs 4, jI vs 5, jI vs 6, jB vs 7, jL vs 8, jS vs 9, jS vs 10, .s (s85), .i (n86), jB vs 13, .b (b87), jI vs 15, jI vs 16, jI vs 17, jI vs 18, jI vs 19, jI vs 20, jI vs 21, jB vs 22, jL vs 23, jS vs 24])) m (vS vs 11) (vI vs 12) (vV vs 14)
def ST48 : LT := [(1, sumT T48o1 (L48o1 KK))]
noncomputable def b48o1 : Code := match nodeAt c48 1 with | some (.loop a) => a | _ => .skip
theorem q48o1 : Qp L48o1 C48 ST48 b48o1 2 T48o1 := fun m vs K => by kernel_rfl
theorem o48o1 : SumOk C48 KK (sumT T48o1 (L48o1 KK)) (.loop b48o1) := loop_ok T48o1 L48o1 (sums_of (t := ST48) ⟨fun _ _ h => absurd h (by decide), trivial⟩) (fun _ _ => rfl) q48o1
theorem r48 : ∀ vs, tw48 vs = bodyK C48 (lkS ST48) Try.f48 (sig 48) c48 (fillAs A48 0 vs) := fun vs => by kernel_rfl
theorem ok48 : OkS sig (Gd G dep (dep 48)) 48 th48 := fun xs q h => body_ok Try.func48 (c := c48) rfl A48 tw48 (sums_of (C := C48) (t := ST48) ⟨sum_in (c' := .loop b48o1) (by kernel_rfl) (o48o1), trivial⟩) r48 (by rw [← tpw48]; exact opt_gOf h)
noncomputable def C54 : Ctx := ⟨Try.prog, sig, Gd G dep (dep 54), (sig 54).keep, (sig 54).ord⟩
noncomputable def c54 : Code := Try.f54.body.getD .skip
def T54o1 : TSt := ⟨[dS, .ptr 128 0, dB, .own 896, dI, .ptr 384 0, dI, .undef, .any, .any, .any, dB, .any, .any, .any, .undef], [(128, .box [dI, dI, dI, dI, dI, dI, dI, dB, .nils, dS]), (384, .box [dI, dI, dI, dI, dI, dI, dI, dB, .own 24585, dS]), (896, .row 3 1), (24585, .row 119 2)]⟩
def X54o1e1 : TSt := ⟨[dS, .ptr 128 0, dB, .own 896, dI, .ptr 384 0, dI, .own 3968, dI, .any, .any, dB, dB, dB, .any, .undef], [(128, .box [dI, dI, dI, dI, dI, dI, dI, dB, .nils, dS]), (384, .box [dI, dI, dI, dI, dI, dI, dI, dB, .own 24585, dS]), (896, .row 3 1), (3968, .row 3 1), (24585, .row 119 2)]⟩
def X54o1e2 : TSt := ⟨[dS, .ptr 128 0, dB, .own 896, dI, .ptr 384 0, dI, .own 3968, dI, dS, dI, dB, dB, dB, dB, .undef], [(128, .box [dI, dI, dI, dI, dI, dI, dI, dB, .nils, dS]), (384, .box [dI, dI, dI, dI, dI, dI, dI, dB, .own 24585, dS]), (896, .row 3 1), (3968, .row 3 1), (24585, .row 119 2)]⟩
def X54o1e3 : TSt := ⟨[dS, .ptr 128 0, dB, .own 896, dI, .ptr 384 0, dI, .undef, .any, .any, .any, dB, dB, .any, .any, .undef], [(128, .box [dI, dI, dI, dI, dI, dI, dI, dB, .nils, dS]), (384, .box [dI, dI, dI, dI, dI, dI, dI, dB, .own 24585, dS]), (896, .row 3 1), (24585, .row 119 2)]⟩
def L54o1 (m : Nat) (vs : List Vr) (K : KT) : Rs := la54o1 tu48 tu92 tu93 (vS vs 0) (vB vs 1) (vB vs 7) (vI vs 11) (vI vs 12) (vI vs 13) (vI vs 14) (vI vs 15) (vI vs 16) (vI vs 17) (vB vs 18) (vS vs 19) (vI vs 20) (vI vs 21) (vI vs 22) (vI vs 23) (vI vs 24) (vI vs 25) (vI vs 26) (vB vs 27) (vS vs 28) (vL vs 29) (fun n89 n90 n91 v92 v93 b94 b95 v96 s97 l98 l99 => K .ret (fillS X54o1e1 [jS vs 0, .b (false), .i (n89), .i (n90), .i (n91), .v (v92), .v (v93), jB vs 7, .b (b94), .b (b95), .v (v96), .i ((0 : Int)), .i ((0 : Int)), .i ((0 : Int)), .i ((0 : Int)), .i ((0 : Int)), .i ((0 : Int)), .i ((0 : Int)), .b (false), .s (s97), jI vs 20, jI vs 21, jI vs 22, jI vs 23, jI vs 24, jI vs 25, jI vs 26, jB vs 27, jS vs 28, jL vs 29, .l (l98), .l (l99)])) (fun n100 n101 n102 s103 n104 b105 b106 b107 s108 l109 l110 => K .ret (fillS X54o1e2 [jS vs 0, .b (false), .i (n100), .i (n101), .i (n102), .s (s103), .i (n104), jB vs 7, .b (b105), .b (b106), .b (b107), .i ((0 : Int)), .i ((0 : Int)), .i ((0 : Int)), .i ((0 : Int)), .i ((0 : Int)), .i ((0 : Int)), .i ((0 : Int)), .b (false), .s (s108), jI vs 20, jI vs 21, jI vs 22, jI vs 23, jI vs 24, jI vs 25, jI vs 26, jB vs 27, jS vs 28, jL vs 29, .l (l109), .l (l110)])) (fun n111 n112 v113 v114 v115 b116 v117 v118 l119 => K (.exit 0) (fillS X54o1e3 [jS vs 0, jB vs 1, .i (n111), .i (n112), .v (v113), .v (v114), .v (v115), jB vs 7, .b (b116), .v (v117), .v (v118), jI vs 11, jI vs 12, jI vs 13, jI vs 14, jI vs 15, jI vs 16, jI vs 17, jB vs 18, jS vs 19, jI vs 20, jI vs 21, jI vs 22, jI vs 23, jI vs 24, jI vs 25, jI vs 26, jB vs 27, jS vs 28, jL vs 29, .l (l119)])) m (vI vs 2) (vI vs 3) (vV vs 4) (vV vs 5) (vV vs 6) (vV vs 8) (vV vs 9) (vV vs 10) (vL vs 30)
def ST54 : LT := [(1, sumT T54o1 (L54o1 KK))]
noncomputable def b54o1 : Code := match nodeAt c54 1 with | some (.loop a) => a | _ => .skip
theorem q54o1 : Qp L54o1 C54 ST54 b54o1 2 T54o1 := fun m vs K => by kernel_rfl
theorem o54o1 : SumOk C54 KK (sumT T54o1 (L54o1 KK)) (.loop b54o1) := loop_ok T54o1 L54o1 (sums_of (t := ST54) ⟨fun _ _ h => absurd h (by decide), trivial⟩) (fun _ _ => rfl) q54o1
theorem r54 : ∀ vs, tw54 vs = bodyK C54 (lkS ST54) Try.f54 (sig 54) c54 (fillAs A54 0 vs) := fun vs => by kernel_rfl
theorem ok54 : OkS sig (Gd G dep (dep 54)) 54 th54 := fun xs q h => body_ok Try.func54 (c := c54) rfl A54 tw54 (sums_of (C := C54) (t := ST54) ⟨sum_in (c' := .loop b54o1) (by kernel_rfl) (o54o1), trivial⟩) r54 (by rw [← tpw54]; exact opt_gOf h)
noncomputable def C86 : Ctx := ⟨Try.prog, sig, Gd G dep (dep 86), (sig 86).keep, (sig 86).ord⟩
noncomputable def c86 : Code := Try.f86.body.getD .skip
def T86o0 : TSt := ⟨[dS, dI, dI, dI, dI, .any, .any, .any, .undef], []⟩
def X86o0e1 : TSt := ⟨[dS, dI, dI, dI, dI, dI, dB, dB, dB], []⟩
def X86o0e2 : TSt := ⟨[dS, dI, dI, dI, dI, .any, dB, .any, .undef], []⟩
def L86o0 (m : Nat) (vs : List Vr) (K : KT) : Rs := l86o0 (vS vs 0) (vI vs 1) (vI vs 2) (fun n23 n24 n25 n26 n27 b28 b29 b30 => K .ret (fillS X86o0e1 [jS vs 0, .i (n23), .i (n24), .i (n25), .i (n26), .i (n27), .b (b28), .b (b29), .b (b30)])) (fun n31 n32 v33 b34 v35 => K (.exit 0) (fillS X86o0e2 [jS vs 0, jI vs 1, jI vs 2, .i (n31), .i (n32), .v (v33), .b (b34), .v (v35)])) m (vI vs 3) (vI vs 4) (vV vs 5) (vV vs 6) (vV vs 7)
def ST86 : LT := [(0, sumT T86o0 (L86o0 KK))]
noncomputable def b86o0 : Code := match nodeAt c86 0 with | some (.loop a) => a | _ => .skip
theorem q86o0 : Qp L86o0 C86 ST86 b86o0 1 T86o0 := fun m vs K => by kernel_rfl
theorem o86o0 : SumOk C86 KK (sumT T86o0 (L86o0 KK)) (.loop b86o0) := loop_ok T86o0 L86o0 (sums_of (t := ST86) ⟨fun _ _ h => absurd h (by decide), trivial⟩) (fun _ _ => rfl) q86o0
theorem r86 : ∀ vs, tw86 vs = bodyK C86 (lkS ST86) Try.f86 (sig 86) c86 (fillAs A86 0 vs) := fun vs => by kernel_rfl
theorem ok86 : OkS sig (Gd G dep (dep 86)) 86 th86 := fun xs q h => body_ok Try.func86 (c := c86) rfl A86 tw86 (sums_of (C := C86) (t := ST86) ⟨sum_in (c' := .loop b86o0) (by kernel_rfl) (o86o0), trivial⟩) r86 (by rw [← tpw86]; exact opt_gOf h)
noncomputable def C95 : Ctx := ⟨Try.prog, sig, Gd G dep (dep 95), (sig 95).keep, (sig 95).ord⟩
noncomputable def c95 : Code := Try.f95.body.getD .skip
def ST95 : LT := []
theorem r95 : ∀ vs, tw95 vs = bodyK C95 (lkS ST95) Try.f95 (sig 95) c95 (fillAs A95 0 vs) := fun vs => by kernel_rfl
theorem ok95 : OkS sig (Gd G dep (dep 95)) 95 th95 := fun xs q h => body_ok Try.func95 (c := c95) rfl A95 tw95 (sums_of (C := C95) (t := ST95) trivial) r95 (by rw [← tpw95]; exact opt_gOf h)
noncomputable def C99 : Ctx := ⟨Try.prog, sig, Gd G dep (dep 99), (sig 99).keep, (sig 99).ord⟩
noncomputable def c99 : Code := Try.f99.body.getD .skip
def ST99 : LT := []
theorem r99 : ∀ vs, tw99 vs = bodyK C99 (lkS ST99) Try.f99 (sig 99) c99 (fillAs A99 0 vs) := fun vs => by kernel_rfl
theorem ok99 : OkS sig (Gd G dep (dep 99)) 99 th99 := fun xs q h => body_ok Try.func99 (c := c99) rfl A99 tw99 (sums_of (C := C99) (t := ST99) trivial) r99 (by rw [← tpw99]; exact opt_gOf h)
noncomputable def C121 : Ctx := ⟨Try.prog, sig, Gd G dep (dep 121), (sig 121).keep, (sig 121).ord⟩
noncomputable def c121 : Code := Try.f121.body.getD .skip
def ST121 : LT := []
theorem r121 : ∀ vs, tw121 vs = bodyK C121 (lkS ST121) Try.f121 (sig 121) c121 (fillAs A121 0 vs) := fun vs => by kernel_rfl
theorem ok121 : OkS sig (Gd G dep (dep 121)) 121 th121 := fun xs q h => body_ok Try.func121 (c := c121) rfl A121 tw121 (sums_of (C := C121) (t := ST121) trivial) r121 (by rw [← tpw121]; exact opt_gOf h)
noncomputable def C97 : Ctx := ⟨Try.prog, sig, Gd G dep (dep 97), (sig 97).keep, (sig 97).ord⟩
noncomputable def c97 : Code := Try.f97.body.getD .skip
def ST97 : LT := []
theorem r97 : ∀ vs, tw97 vs = bodyK C97 (lkS ST97) Try.f97 (sig 97) c97 (fillAs A97 0 vs) := fun vs => by kernel_rfl
theorem ok97 : OkS sig (Gd G dep (dep 97)) 97 th97 := fun xs q h => body_ok Try.func97 (c := c97) rfl A97 tw97 (sums_of (C := C97) (t := ST97) trivial) r97 (by rw [← tpw97]; exact opt_gOf h)
noncomputable def C62 : Ctx := ⟨Try.prog, sig, Gd G dep (dep 62), (sig 62).keep, (sig 62).ord⟩
noncomputable def c62 : Code := Try.f62.body.getD .skip
def ST62 : LT := []
theorem r62 : ∀ vs, tw62 vs = bodyK C62 (lkS ST62) Try.f62 (sig 62) c62 (fillAs A62 0 vs) := fun vs => by kernel_rfl
theorem ok62 : OkS sig (Gd G dep (dep 62)) 62 th62 := fun xs q h => body_ok Try.func62 (c := c62) rfl A62 tw62 (sums_of (C := C62) (t := ST62) trivial) r62 (by rw [← tpw62]; exact opt_gOf h)
noncomputable def C77 : Ctx := ⟨Try.prog, sig, Gd G dep (dep 77), (sig 77).keep, (sig 77).ord⟩
noncomputable def c77 : Code := Try.f77.body.getD .skip
def ST77 : LT := []
theorem r77 : ∀ vs, tw77 vs = bodyK C77 (lkS ST77) Try.f77 (sig 77) c77 (fillAs A77 0 vs) := fun vs => by kernel_rfl
theorem ok77 : OkS sig (Gd G dep (dep 77)) 77 th77 := fun xs q h => body_ok Try.func77 (c := c77) rfl A77 tw77 (sums_of (C := C77) (t := ST77) trivial) r77 (by rw [← tpw77]; exact opt_gOf h)
noncomputable def C78 : Ctx := ⟨Try.prog, sig, Gd G dep (dep 78), (sig 78).keep, (sig 78).ord⟩
noncomputable def c78 : Code := Try.f78.body.getD .skip
def T78o0 : TSt := ⟨[.pv [.i .i64, .i .i64, .i .i64, .i .i64, .i .i64, .i .i64, .i .i64, .b, .l, .s] 0, dB, dI, .undef, dL, dI, dI, .any, .any], []⟩
def X78o0e1 : TSt := ⟨[.pv [.i .i64, .i .i64, .i .i64, .i .i64, .i .i64, .i .i64, .i .i64, .b, .l, .s] 0, dB, dI, .ptr 320 0, dL, dI, dI, dB, dB], [(320, .box [dI, dS])]⟩
def X78o0e2 : TSt := ⟨[.pv [.i .i64, .i .i64, .i .i64, .i .i64, .i .i64, .i .i64, .i .i64, .b, .l, .s] 0, dB, dI, .undef, dL, dI, dI, dB, .any], []⟩
def L78o0 (m : Nat) (vs : List Vr) (K : KT) : Rs := la78o0 tu62 (vI vs 0) (vI vs 1) (vI vs 2) (vI vs 3) (vI vs 4) (vI vs 5) (vI vs 6) (vB vs 7) (vL vs 8) (vS vs 9) (vB vs 10) (vL vs 12) (vI vs 13) (fun n60 n61 b62 b63 n64 s65 => K .ret (fillS X78o0e1 [jI vs 0, jI vs 1, jI vs 2, jI vs 3, jI vs 4, jI vs 5, jI vs 6, jB vs 7, jL vs 8, jS vs 9, .b (false), .i (n60), jL vs 12, jI vs 13, .i (n61), .b (b62), .b (b63), .i (n64), .s (s65)])) (fun n66 n67 b68 v69 => K (.exit 0) (fillS X78o0e2 [jI vs 0, jI vs 1, jI vs 2, jI vs 3, jI vs 4, jI vs 5, jI vs 6, jB vs 7, jL vs 8, jS vs 9, jB vs 10, .i (n66), jL vs 12, jI vs 13, .i (n67), .b (b68), .v (v69)])) m (vI vs 11) (vI vs 14) (vV vs 15) (vV vs 16)
def ST78 : LT := [(0, sumT T78o0 (L78o0 KK))]
noncomputable def b78o0 : Code := match nodeAt c78 0 with | some (.loop a) => a | _ => .skip
theorem q78o0 : Qp L78o0 C78 ST78 b78o0 1 T78o0 := fun m vs K => by kernel_rfl
theorem o78o0 : SumOk C78 KK (sumT T78o0 (L78o0 KK)) (.loop b78o0) := loop_ok T78o0 L78o0 (sums_of (t := ST78) ⟨fun _ _ h => absurd h (by decide), trivial⟩) (fun _ _ => rfl) q78o0
theorem r78 : ∀ vs, tw78 vs = bodyK C78 (lkS ST78) Try.f78 (sig 78) c78 (fillAs A78 0 vs) := fun vs => by kernel_rfl
theorem ok78 : OkS sig (Gd G dep (dep 78)) 78 th78 := fun xs q h => body_ok Try.func78 (c := c78) rfl A78 tw78 (sums_of (C := C78) (t := ST78) ⟨sum_in (c' := .loop b78o0) (by kernel_rfl) (o78o0), trivial⟩) r78 (by rw [← tpw78]; exact opt_gOf h)
noncomputable def C116 : Ctx := ⟨Try.prog, sig, Gd G dep (dep 116), (sig 116).keep, (sig 116).ord⟩
noncomputable def c116 : Code := Try.f116.body.getD .skip
def T116o1 : TSt := ⟨[dL, dL, dB, .any, dB, dI, dI, .any, .any], []⟩
def X116o1e1 : TSt := ⟨[dL, dL, dB, dI, dB, dI, dI, dB, dB], []⟩
def X116o1e2 : TSt := ⟨[dL, dL, dB, .any, dB, dI, dI, dB, .any], []⟩
def L116o1 (m : Nat) (vs : List Vr) (K : KT) : Rs := l116o1 (vL vs 0) (vL vs 1) (vB vs 2) (vB vs 4) (vI vs 5) (fun n27 b28 b29 => K .ret (fillS X116o1e1 [jL vs 0, jL vs 1, .b (false), .i (n27), jB vs 4, jI vs 5, .i (n27), .b (b28), .b (b29)])) (fun v30 n31 b32 v33 => K (.exit 0) (fillS X116o1e2 [jL vs 0, jL vs 1, jB vs 2, .v (v30), jB vs 4, jI vs 5, .i (n31), .b (b32), .v (v33)])) m (vV vs 3) (vI vs 6) (vV vs 7) (vV vs 8)
def ST116 : LT := [(1, sumT T116o1 (L116o1 KK))]
noncomputable def b116o1 : Code := match nodeAt c116 1 with | some (.loop a) => a | _ => .skip
theorem q116o1 : Qp L116o1 C116 ST116 b116o1 2 T116o1 := fun m vs K => by kernel_rfl
theorem o116o1 : SumOk C116 KK (sumT T116o1 (L116o1 KK)) (.loop b116o1) := loop_ok T116o1 L116o1 (sums_of (t := ST116) ⟨fun _ _ h => absurd h (by decide), trivial⟩) (fun _ _ => rfl) q116o1
theorem r116 : ∀ vs, tw116 vs = bodyK C116 (lkS ST116) Try.f116 (sig 116) c116 (fillAs A116 0 vs) := fun vs => by kernel_rfl
theorem ok116 : OkS sig (Gd G dep (dep 116)) 116 th116 := fun xs q h => body_ok Try.func116 (c := c116) rfl A116 tw116 (sums_of (C := C116) (t := ST116) ⟨sum_in (c' := .loop b116o1) (by kernel_rfl) (o116o1), trivial⟩) r116 (by rw [← tpw116]; exact opt_gOf h)
noncomputable def C79 : Ctx := ⟨Try.prog, sig, Gd G dep (dep 79), (sig 79).keep, (sig 79).ord⟩
noncomputable def c79 : Code := Try.f79.body.getD .skip
def ST79 : LT := []
theorem r79 : ∀ vs, tw79 vs = bodyK C79 (lkS ST79) Try.f79 (sig 79) c79 (fillAs A79 0 vs) := fun vs => by kernel_rfl
theorem ok79 : OkS sig (Gd G dep (dep 79)) 79 th79 := fun xs q h => body_ok Try.func79 (c := c79) rfl A79 tw79 (sums_of (C := C79) (t := ST79) trivial) r79 (by rw [← tpw79]; exact opt_gOf h)
noncomputable def C39 : Ctx := ⟨Try.prog, sig, Gd G dep (dep 39), (sig 39).keep, (sig 39).ord⟩
noncomputable def c39 : Code := Try.f39.body.getD .skip
def ST39 : LT := []
theorem r39 : ∀ vs, tw39 vs = bodyK C39 (lkS ST39) Try.f39 (sig 39) c39 (fillAs A39 0 vs) := fun vs => by kernel_rfl
theorem ok39 : OkS sig (Gd G dep (dep 39)) 39 th39 := fun xs q h => body_ok Try.func39 (c := c39) rfl A39 tw39 (sums_of (C := C39) (t := ST39) trivial) r39 (by rw [← tpw39]; exact opt_gOf h)
noncomputable def C55 : Ctx := ⟨Try.prog, sig, Gd G dep (dep 55), (sig 55).keep, (sig 55).ord⟩
noncomputable def c55 : Code := Try.f55.body.getD .skip
def T55o1 : TSt := ⟨[dS, .ptr 128 0, dB, .ptr 1216 0, .ptr 320 0, dI, .undef, dB, dI, dI, .any, .undef], [(128, .box [dI, dI, dI, dI, dI, dI, dI, dB, .nils, dS]), (320, .box [dI, dI, dI, dI, dI, dI, dI, dB, .own 20489, dS]), (1216, .box [dS, dB]), (20489, .row 119 2)]⟩
def X55o1e1 : TSt := ⟨[dS, .ptr 128 0, dB, .ptr 1216 0, .ptr 320 0, dI, .undef, dB, dI, dI, dB, .undef], [(128, .box [dI, dI, dI, dI, dI, dI, dI, dB, .nils, dS]), (320, .box [dI, dI, dI, dI, dI, dI, dI, dB, .own 20489, dS]), (1216, .box [dS, dB]), (20489, .row 119 2)]⟩
def L55o1 (m : Nat) (vs : List Vr) (K : KT) : Rs := la55o1 tu39 tu95 tu97 tu99 (vS vs 0) (vB vs 1) (vI vs 2) (vB vs 3) (vI vs 4) (vI vs 7) (vI vs 8) (vI vs 9) (vI vs 10) (vI vs 11) (vI vs 12) (vI vs 13) (vB vs 14) (vS vs 15) (vI vs 16) (vI vs 17) (vI vs 18) (vI vs 19) (vI vs 20) (vI vs 21) (vI vs 22) (vB vs 23) (vS vs 24) (fun n85 b86 s87 b88 l89 => K (.exit 0) (fillS X55o1e1 [jS vs 0, jB vs 1, jI vs 2, jB vs 3, jI vs 4, .i (n85), .b (b86), jI vs 7, jI vs 8, jI vs 9, jI vs 10, jI vs 11, jI vs 12, jI vs 13, jB vs 14, jS vs 15, jI vs 16, jI vs 17, jI vs 18, jI vs 19, jI vs 20, jI vs 21, jI vs 22, jB vs 23, jS vs 24, .s (s87), .b (b88), .l (l89)])) m (vI vs 5) (vV vs 6) (vS vs 25) (vB vs 26) (vL vs 27)
def ST55 : LT := [(1, sumT T55o1 (L55o1 KK))]
noncomputable def b55o1 : Code := match nodeAt c55 1 with | some (.loop a) => a | _ => .skip
theorem q55o1 : Qp L55o1 C55 ST55 b55o1 2 T55o1 := fun m vs K => by kernel_rfl
theorem o55o1 : SumOk C55 KK (sumT T55o1 (L55o1 KK)) (.loop b55o1) := loop_ok T55o1 L55o1 (sums_of (t := ST55) ⟨fun _ _ h => absurd h (by decide), trivial⟩) (fun _ _ => rfl) q55o1
theorem r55 : ∀ vs, tw55 vs = bodyK C55 (lkS ST55) Try.f55 (sig 55) c55 (fillAs A55 0 vs) := fun vs => by kernel_rfl
theorem ok55 : OkS sig (Gd G dep (dep 55)) 55 th55 := fun xs q h => body_ok Try.func55 (c := c55) rfl A55 tw55 (sums_of (C := C55) (t := ST55) ⟨sum_in (c' := .loop b55o1) (by kernel_rfl) (o55o1), trivial⟩) r55 (by rw [← tpw55]; exact opt_gOf h)
noncomputable def C117 : Ctx := ⟨Try.prog, sig, Gd G dep (dep 117), (sig 117).keep, (sig 117).ord⟩
noncomputable def c117 : Code := Try.f117.body.getD .skip
def ST117 : LT := []
theorem r117 : ∀ vs, tw117 vs = bodyK C117 (lkS ST117) Try.f117 (sig 117) c117 (fillAs A117 0 vs) := fun vs => by kernel_rfl
theorem ok117 : OkS sig (Gd G dep (dep 117)) 117 th117 := fun xs q h => body_ok Try.func117 (c := c117) rfl A117 tw117 (sums_of (C := C117) (t := ST117) trivial) r117 (by rw [← tpw117]; exact opt_gOf h)
noncomputable def C80 : Ctx := ⟨Try.prog, sig, Gd G dep (dep 80), (sig 80).keep, (sig 80).ord⟩
noncomputable def c80 : Code := Try.f80.body.getD .skip
def T80o1 : TSt := ⟨[dL, dL, dB, dI, dB, .any, .any], []⟩
def X80o1e1 : TSt := ⟨[dL, dL, dB, dI, dB, dB, dB], []⟩
def X80o1e2 : TSt := ⟨[dL, dL, dB, dI, dB, dB, .any], []⟩
def L80o1 (m : Nat) (vs : List Vr) (K : KT) : Rs := la80o1 tu117 (vL vs 0) (vL vs 1) (vB vs 2) (vB vs 4) (fun n22 b23 b24 => K .ret (fillS X80o1e1 [jL vs 0, jL vs 1, .b (false), .i (n22), jB vs 4, .b (b23), .b (b24)])) (fun n25 b26 v27 => K (.exit 0) (fillS X80o1e2 [jL vs 0, jL vs 1, jB vs 2, .i (n25), jB vs 4, .b (b26), .v (v27)])) m (vI vs 3) (vV vs 5) (vV vs 6)
def ST80 : LT := [(1, sumT T80o1 (L80o1 KK))]
noncomputable def b80o1 : Code := match nodeAt c80 1 with | some (.loop a) => a | _ => .skip
theorem q80o1 : Qp L80o1 C80 ST80 b80o1 2 T80o1 := fun m vs K => by kernel_rfl
theorem o80o1 : SumOk C80 KK (sumT T80o1 (L80o1 KK)) (.loop b80o1) := loop_ok T80o1 L80o1 (sums_of (t := ST80) ⟨fun _ _ h => absurd h (by decide), trivial⟩) (fun _ _ => rfl) q80o1
theorem r80 : ∀ vs, tw80 vs = bodyK C80 (lkS ST80) Try.f80 (sig 80) c80 (fillAs A80 0 vs) := fun vs => by kernel_rfl
theorem ok80 : OkS sig (Gd G dep (dep 80)) 80 th80 := fun xs q h => body_ok Try.func80 (c := c80) rfl A80 tw80 (sums_of (C := C80) (t := ST80) ⟨sum_in (c' := .loop b80o1) (by kernel_rfl) (o80o1), trivial⟩) r80 (by rw [← tpw80]; exact opt_gOf h)
noncomputable def C40 : Ctx := ⟨Try.prog, sig, Gd G dep (dep 40), (sig 40).keep, (sig 40).ord⟩
noncomputable def c40 : Code := Try.f40.body.getD .skip
def ST40 : LT := []
theorem r40 : ∀ vs, tw40 vs = bodyK C40 (lkS ST40) Try.f40 (sig 40) c40 (fillAs A40 0 vs) := fun vs => by kernel_rfl
theorem ok40 : OkS sig (Gd G dep (dep 40)) 40 th40 := fun xs q h => body_ok Try.func40 (c := c40) rfl A40 tw40 (sums_of (C := C40) (t := ST40) trivial) r40 (by rw [← tpw40]; exact opt_gOf h)
noncomputable def C98 : Ctx := ⟨Try.prog, sig, Gd G dep (dep 98), (sig 98).keep, (sig 98).ord⟩
noncomputable def c98 : Code := Try.f98.body.getD .skip
def T98o1 : TSt := ⟨[dI, dS, dS, dB, .any], []⟩
def X98o1e1 : TSt := ⟨[dI, dS, dS, dB, dB], []⟩
def L98o1 (m : Nat) (vs : List Vr) (K : KT) : Rs := l98o1 (vS vs 1) (vB vs 3) (fun n16 s17 b18 => K (.exit 0) (fillS X98o1e1 [.i (n16), jS vs 1, .s (s17), jB vs 3, .b (b18)])) m (vI vs 0) (vS vs 2) (vV vs 4)
def ST98 : LT := [(1, sumT T98o1 (L98o1 KK))]
noncomputable def b98o1 : Code := match nodeAt c98 1 with | some (.loop a) => a | _ => .skip
theorem q98o1 : Qp L98o1 C98 ST98 b98o1 2 T98o1 := fun m vs K => by kernel_rfl
theorem o98o1 : SumOk C98 KK (sumT T98o1 (L98o1 KK)) (.loop b98o1) := loop_ok T98o1 L98o1 (sums_of (t := ST98) ⟨fun _ _ h => absurd h (by decide), trivial⟩) (fun _ _ => rfl) q98o1
theorem r98 : ∀ vs, tw98 vs = bodyK C98 (lkS ST98) Try.f98 (sig 98) c98 (fillAs A98 0 vs) := fun vs => by kernel_rfl
theorem ok98 : OkS sig (Gd G dep (dep 98)) 98 th98 := fun xs q h => body_ok Try.func98 (c := c98) rfl A98 tw98 (sums_of (C := C98) (t := ST98) ⟨sum_in (c' := .loop b98o1) (by kernel_rfl) (o98o1), trivial⟩) r98 (by rw [← tpw98]; exact opt_gOf h)
noncomputable def C100 : Ctx := ⟨Try.prog, sig, Gd G dep (dep 100), (sig 100).keep, (sig 100).ord⟩
noncomputable def c100 : Code := Try.f100.body.getD .skip
def T100o0 : TSt := ⟨[.own 1, dI, dI, dI, .any], [(1, .row 999999999 2)]⟩
def X100o0e1 : TSt := ⟨[.own 1, dI, dI, dI, dB], [(1, .row 999999999 2)]⟩
def L100o0 (m : Nat) (vs : List Vr) (K : KT) : Rs := la100o0 tu98 (vI vs 1) (fun n17 n18 b19 l20 => K (.exit 0) (fillS X100o0e1 [.i (n17), jI vs 1, .i (n18), .b (b19), .l (l20)])) m (vI vs 0) (vI vs 2) (vV vs 3) (vL vs 4)
def ST100 : LT := [(0, sumT T100o0 (L100o0 KK))]
noncomputable def b100o0 : Code := match nodeAt c100 0 with | some (.loop a) => a | _ => .skip
theorem q100o0 : Qp L100o0 C100 ST100 b100o0 1 T100o0 := fun m vs K => by kernel_rfl
theorem o100o0 : SumOk C100 KK (sumT T100o0 (L100o0 KK)) (.loop b100o0) := loop_ok T100o0 L100o0 (sums_of (t := ST100) ⟨fun _ _ h => absurd h (by decide), trivial⟩) (fun _ _ => rfl) q100o0
theorem r100 : ∀ vs, tw100 vs = bodyK C100 (lkS ST100) Try.f100 (sig 100) c100 (fillAs A100 0 vs) := fun vs => by kernel_rfl
theorem ok100 : OkS sig (Gd G dep (dep 100)) 100 th100 := fun xs q h => body_ok Try.func100 (c := c100) rfl A100 tw100 (sums_of (C := C100) (t := ST100) ⟨sum_in (c' := .loop b100o0) (by kernel_rfl) (o100o0), trivial⟩) r100 (by rw [← tpw100]; exact opt_gOf h)
noncomputable def C56 : Ctx := ⟨Try.prog, sig, Gd G dep (dep 56), (sig 56).keep, (sig 56).ord⟩
noncomputable def c56 : Code := Try.f56.body.getD .skip
def ST56 : LT := []
theorem r56 : ∀ vs, tw56 vs = bodyK C56 (lkS ST56) Try.f56 (sig 56) c56 (fillAs A56 0 vs) := fun vs => by kernel_rfl
theorem ok56 : OkS sig (Gd G dep (dep 56)) 56 th56 := fun xs q h => body_ok Try.func56 (c := c56) rfl A56 tw56 (sums_of (C := C56) (t := ST56) trivial) r56 (by rw [← tpw56]; exact opt_gOf h)
noncomputable def C101 : Ctx := ⟨Try.prog, sig, Gd G dep (dep 101), (sig 101).keep, (sig 101).ord⟩
noncomputable def c101 : Code := Try.f101.body.getD .skip
def T101o0 : TSt := ⟨[dL, dI, dI, dI, .any, .any, .any], []⟩
def X101o0e1 : TSt := ⟨[dL, dI, dI, dI, dB, dB, .any], []⟩
def X101o0e2 : TSt := ⟨[dL, dI, dI, dI, dB, dB, dB], []⟩
def X101o0e3 : TSt := ⟨[dL, dI, dI, dI, dB, .any, .any], []⟩
def L101o0 (m : Nat) (vs : List Vr) (K : KT) : Rs := la101o0 tu98 (vL vs 0) (vI vs 2) (fun n21 n22 b23 b24 v25 => K .ret (fillS X101o0e1 [jL vs 0, .i (n21), .i ((-1 : Int)), .i (n22), .b (b23), .b (b24), .v (v25)])) (fun n26 n27 b28 b29 b30 => K .ret (fillS X101o0e2 [jL vs 0, .i (n26), .i ((-1 : Int)), .i (n27), .b (b28), .b (b29), .b (b30)])) (fun n31 n32 b33 v34 v35 => K (.exit 0) (fillS X101o0e3 [jL vs 0, .i (n31), jI vs 2, .i (n32), .b (b33), .v (v34), .v (v35)])) m (vI vs 1) (vI vs 3) (vV vs 4) (vV vs 5) (vV vs 6)
def ST101 : LT := [(0, sumT T101o0 (L101o0 KK))]
noncomputable def b101o0 : Code := match nodeAt c101 0 with | some (.loop a) => a | _ => .skip
theorem q101o0 : Qp L101o0 C101 ST101 b101o0 1 T101o0 := fun m vs K => by kernel_rfl
theorem o101o0 : SumOk C101 KK (sumT T101o0 (L101o0 KK)) (.loop b101o0) := loop_ok T101o0 L101o0 (sums_of (t := ST101) ⟨fun _ _ h => absurd h (by decide), trivial⟩) (fun _ _ => rfl) q101o0
theorem r101 : ∀ vs, tw101 vs = bodyK C101 (lkS ST101) Try.f101 (sig 101) c101 (fillAs A101 0 vs) := fun vs => by kernel_rfl
theorem ok101 : OkS sig (Gd G dep (dep 101)) 101 th101 := fun xs q h => body_ok Try.func101 (c := c101) rfl A101 tw101 (sums_of (C := C101) (t := ST101) ⟨sum_in (c' := .loop b101o0) (by kernel_rfl) (o101o0), trivial⟩) r101 (by rw [← tpw101]; exact opt_gOf h)
noncomputable def C57 : Ctx := ⟨Try.prog, sig, Gd G dep (dep 57), (sig 57).keep, (sig 57).ord⟩
noncomputable def c57 : Code := Try.f57.body.getD .skip
def ST57 : LT := []
theorem r57 : ∀ vs, tw57 vs = bodyK C57 (lkS ST57) Try.f57 (sig 57) c57 (fillAs A57 0 vs) := fun vs => by kernel_rfl
theorem ok57 : OkS sig (Gd G dep (dep 57)) 57 th57 := fun xs q h => body_ok Try.func57 (c := c57) rfl A57 tw57 (sums_of (C := C57) (t := ST57) trivial) r57 (by rw [← tpw57]; exact opt_gOf h)
noncomputable def C13 : Ctx := ⟨Try.prog, sig, Gd G dep (dep 13), (sig 13).keep, (sig 13).ord⟩
noncomputable def c13 : Code := Try.f13.body.getD .skip
def ST13 : LT := []
theorem r13 : ∀ vs, tw13 vs = bodyK C13 (lkS ST13) Try.f13 (sig 13) c13 (fillAs A13 0 vs) := fun vs => by kernel_rfl
theorem ok13 : OkS sig (Gd G dep (dep 13)) 13 th13 := fun xs q h => body_ok Try.func13 (c := c13) rfl A13 tw13 (sums_of (C := C13) (t := ST13) trivial) r13 (by rw [← tpw13]; exact opt_gOf h)
theorem fn_ok : ∀ f ∈ [60, 89, 84, 92, 93, 72, 73, 74, 114, 75, 37, 90, 48, 54, 86, 95, 99, 121, 97, 62, 77, 78, 116, 79, 39, 55, 117, 80, 40, 98, 100, 56, 101, 57, 13], FnOk Try.prog sig f := fun f h => fnOk_of (List.all_eq_true.1 (show [60, 89, 84, 92, 93, 72, 73, 74, 114, 75, 37, 90, 48, 54, 86, 95, 99, 121, 97, 62, 77, 78, 116, 79, 39, 55, 117, 80, 40, 98, 100, 56, 101, 57, 13].all (fnOkB Try.prog sig) = true by kernel_rfl) f h)
theorem all_ok : AllG (fun f xs q => FnOk Try.prog sig f ∧ evalBody Try.prog sig (Gd G dep (dep f)) KK f xs = some q) gT :=
  ⟨fun xs q h => ⟨fn_ok 60 (by simp), ok60 xs q h⟩, fun xs q h => ⟨fn_ok 89 (by simp), ok89 xs q h⟩, fun xs q h => ⟨fn_ok 84 (by simp), ok84 xs q h⟩, fun xs q h => ⟨fn_ok 92 (by simp), ok92 xs q h⟩, fun xs q h => ⟨fn_ok 93 (by simp), ok93 xs q h⟩, fun xs q h => ⟨fn_ok 72 (by simp), ok72 xs q h⟩, fun xs q h => ⟨fn_ok 73 (by simp), ok73 xs q h⟩, fun xs q h => ⟨fn_ok 74 (by simp), ok74 xs q h⟩, fun xs q h => ⟨fn_ok 114 (by simp), ok114 xs q h⟩, fun xs q h => ⟨fn_ok 75 (by simp), ok75 xs q h⟩, fun xs q h => ⟨fn_ok 37 (by simp), ok37 xs q h⟩, fun xs q h => ⟨fn_ok 90 (by simp), ok90 xs q h⟩, fun xs q h => ⟨fn_ok 48 (by simp), ok48 xs q h⟩, fun xs q h => ⟨fn_ok 54 (by simp), ok54 xs q h⟩, fun xs q h => ⟨fn_ok 86 (by simp), ok86 xs q h⟩, fun xs q h => ⟨fn_ok 95 (by simp), ok95 xs q h⟩, fun xs q h => ⟨fn_ok 99 (by simp), ok99 xs q h⟩, fun xs q h => ⟨fn_ok 121 (by simp), ok121 xs q h⟩, fun xs q h => ⟨fn_ok 97 (by simp), ok97 xs q h⟩, fun xs q h => ⟨fn_ok 62 (by simp), ok62 xs q h⟩, fun xs q h => ⟨fn_ok 77 (by simp), ok77 xs q h⟩, fun xs q h => ⟨fn_ok 78 (by simp), ok78 xs q h⟩, fun xs q h => ⟨fn_ok 116 (by simp), ok116 xs q h⟩, fun xs q h => ⟨fn_ok 79 (by simp), ok79 xs q h⟩, fun xs q h => ⟨fn_ok 39 (by simp), ok39 xs q h⟩, fun xs q h => ⟨fn_ok 55 (by simp), ok55 xs q h⟩, fun xs q h => ⟨fn_ok 117 (by simp), ok117 xs q h⟩, fun xs q h => ⟨fn_ok 80 (by simp), ok80 xs q h⟩, fun xs q h => ⟨fn_ok 40 (by simp), ok40 xs q h⟩, fun xs q h => ⟨fn_ok 98 (by simp), ok98 xs q h⟩, fun xs q h => ⟨fn_ok 100 (by simp), ok100 xs q h⟩, fun xs q h => ⟨fn_ok 56 (by simp), ok56 xs q h⟩, fun xs q h => ⟨fn_ok 101 (by simp), ok101 xs q h⟩, fun xs q h => ⟨fn_ok 57 (by simp), ok57 xs q h⟩, fun xs q h => ⟨fn_ok 13 (by simp), ok13 xs q h⟩, trivial⟩
theorem G_ok (f : Nat) : SpecOk Try.prog (sig f) (fun xs => opt (G f xs)) f := G_spec (by kernel_rfl) (allG_of all_ok) f
end
end Go.Den.L13
