/- The functions' table, and that each is what its twin says. Printed by tw.py. -/
import Derived.Test.YthnpflcemooaeaaL10Tw
import Derived.Test.YthnpflcemooaeaaProg
import Derived.KernelRfl
set_option linter.unusedVariables false
namespace Go.Den.L10
open Go Go.Proofs
noncomputable section
set_option maxRecDepth 100000
def U {α : Type} (a : α) : α := Classical.choose (⟨a, rfl⟩ : ∃ f, f = a)
theorem U_eq {α : Type} (a : α) : U a = a := Classical.choose_spec (⟨a, rfl⟩ : ∃ f, f = a)
abbrev dI : TV := .d (.i .i64)
abbrev dB : TV := .d .b
abbrev dS : TV := .d .s
abbrev dL : TV := .d .l
abbrev KT := Cont (List DV × List (List D))
def dr (a n : Nat) : List (Nat × Nat × List Nat) := (List.range n).map fun i => (a + i, 0, [])
abbrev LT := List (Nat × (St → KT → Rs))
def Qp (L : Nat → List Vr → KT → Rs) (C : Ctx) (S : LT) (b : Code) (n : Nat) (T : TSt) : Prop := ∀ m vs K, L (m + 1) vs K = denK C (lkS S) b n (fillS T vs) (loopK T (L m) K)
abbrev jB (vs : List Vr) (n : Nat) : Vr := .b (vB vs n)
abbrev jI (vs : List Vr) (n : Nat) : Vr := .i (vI vs n)
abbrev jS (vs : List Vr) (n : Nat) : Vr := .s (vS vs n)
abbrev jL (vs : List Vr) (n : Nat) : Vr := .l (vL vs n)
abbrev jN (vs : List Vr) (n : Nat) : Vr := .n (vN vs n)
abbrev jV (vs : List Vr) (n : Nat) : Vr := .v (vV vs n)
def OkS (sig : Nat → Sig) (g : Nat → List DV → Bool × List DV × List (List D)) (f : Nat) (th : List DV → Bool × List DV × List (List D)) : Prop := ∀ xs q, opt (th xs) = some q → evalBody Try.prog sig g KK f xs = some q
def tu57 := U t57
theorem ue57 : tu57 = t57 := U_eq _
theorem te57 : t57 = t57 := rfl
def tw57 (vs : List Vr) : Rs := t57 (vI vs 0) (vI vs 1) (vI vs 2)
def tp57 (vs : List Vr) : Rs := tu57 (vI vs 0) (vI vs 1) (vI vs 2)
theorem tpw57 : tp57 = tw57 := funext fun vs => by unfold tp57 tw57; rw [ue57, te57]
def th57 := fun xs => gOf zr57 zo57 (argsT A57 tp57 xs)
def tu69 := U t69
theorem ue69 : tu69 = t69 := U_eq _
theorem te69 : ta69 tu57 = t69 := by rw [ue57]; rfl
def tw69 (vs : List Vr) : Rs := ta69 tu57 (vI vs 0)
def tp69 (vs : List Vr) : Rs := tu69 (vI vs 0)
theorem tpw69 : tp69 = tw69 := funext fun vs => by unfold tp69 tw69; rw [ue69, te69]
def th69 := fun xs => gOf zr69 zo69 (argsT A69 tp69 xs)
def tu113 := U t113
theorem ue113 : tu113 = t113 := U_eq _
theorem te113 : ta113 tu69 = t113 := by rw [ue69]; rfl
def tw113 (vs : List Vr) : Rs := ta113 tu69 (vS vs 0)
def tp113 (vs : List Vr) : Rs := tu113 (vS vs 0)
theorem tpw113 : tp113 = tw113 := funext fun vs => by unfold tp113 tw113; rw [ue113, te113]
def th113 := fun xs => gOf zr113 zo113 (argsT A113 tp113 xs)
def tu78 := U t78
theorem ue78 : tu78 = t78 := U_eq _
theorem te78 : ta78 tu113 = t78 := by rw [ue113]; rfl
def tw78 (vs : List Vr) : Rs := ta78 tu113 (vS vs 0) (vI vs 1) (vI vs 2)
def tp78 (vs : List Vr) : Rs := tu78 (vS vs 0) (vI vs 1) (vI vs 2)
theorem tpw78 : tp78 = tw78 := funext fun vs => by unfold tp78 tw78; rw [ue78, te78]
def th78 := fun xs => gOf zr78 zo78 (argsT A78 tp78 xs)
def tu77 := U t77
theorem ue77 : tu77 = t77 := U_eq _
theorem te77 : ta77 tu78 = t77 := by rw [ue78]; rfl
def tw77 (vs : List Vr) : Rs := ta77 tu78 (vS vs 0) (vI vs 1)
def tp77 (vs : List Vr) : Rs := tu77 (vS vs 0) (vI vs 1)
theorem tpw77 : tp77 = tw77 := funext fun vs => by unfold tp77 tw77; rw [ue77, te77]
def th77 := fun xs => gOf zr77 zo77 (argsT A77 tp77 xs)
def tu114 := U t114
theorem ue114 : tu114 = t114 := U_eq _
theorem te114 : ta114 tu77 tu78 = t114 := by rw [ue77, ue78]; rfl
def tw114 (vs : List Vr) : Rs := ta114 tu77 tu78 (vS vs 0) (vI vs 1)
def tp114 (vs : List Vr) : Rs := tu114 (vS vs 0) (vI vs 1)
theorem tpw114 : tp114 = tw114 := funext fun vs => by unfold tp114 tw114; rw [ue114, te114]
def th114 := fun xs => gOf zr114 zo114 (argsT A114 tp114 xs)
def tu139 := U t139
theorem ue139 : tu139 = t139 := U_eq _
theorem te139 : t139 = t139 := rfl
def tw139 (vs : List Vr) : Rs := t139 (vI vs 0)
def tp139 (vs : List Vr) : Rs := tu139 (vI vs 0)
theorem tpw139 : tp139 = tw139 := funext fun vs => by unfold tp139 tw139; rw [ue139, te139]
def th139 := fun xs => gOf zr139 zo139 (argsT A139 tp139 xs)
def tu124 := U t124
theorem ue124 : tu124 = t124 := U_eq _
theorem te124 : ta124 tu57 tu139 = t124 := by rw [ue57, ue139]; rfl
def tw124 (vs : List Vr) : Rs := ta124 tu57 tu139 (vS vs 0)
def tp124 (vs : List Vr) : Rs := tu124 (vS vs 0)
theorem tpw124 : tp124 = tw124 := funext fun vs => by unfold tp124 tw124; rw [ue124, te124]
def th124 := fun xs => gOf zr124 zo124 (argsT A124 tp124 xs)
def tu125 := U t125
theorem ue125 : tu125 = t125 := U_eq _
theorem te125 : ta125 tu57 tu139 = t125 := by rw [ue57, ue139]; rfl
def tw125 (vs : List Vr) : Rs := ta125 tu57 tu139 (vS vs 0)
def tp125 (vs : List Vr) : Rs := tu125 (vS vs 0)
theorem tpw125 : tp125 = tw125 := funext fun vs => by unfold tp125 tw125; rw [ue125, te125]
def th125 := fun xs => gOf zr125 zo125 (argsT A125 tp125 xs)
def tu126 := U t126
theorem ue126 : tu126 = t126 := U_eq _
theorem te126 : t126 = t126 := rfl
def tw126 (vs : List Vr) : Rs := t126 (vI vs 0) (vL vs 1) (vI vs 2)
def tp126 (vs : List Vr) : Rs := tu126 (vI vs 0) (vL vs 1) (vI vs 2)
theorem tpw126 : tp126 = tw126 := funext fun vs => by unfold tp126 tw126; rw [ue126, te126]
def th126 := fun xs => gOf zr126 zo126 (argsT A126 tp126 xs)
def tu91 := U t91
theorem ue91 : tu91 = t91 := U_eq _
theorem te91 : ta91 tu57 tu124 tu125 tu126 = t91 := by rw [ue57, ue124, ue125, ue126]; rfl
def tw91 (vs : List Vr) : Rs := ta91 tu57 tu124 tu125 tu126 (vI vs 0) (vL vs 1) (vI vs 2) (vI vs 3) (vI vs 4) (vI vs 5) (vI vs 6) (vS vs 7) (vL vs 8) (vI vs 9) (vI vs 10)
def tp91 (vs : List Vr) : Rs := tu91 (vI vs 0) (vL vs 1) (vI vs 2) (vI vs 3) (vI vs 4) (vI vs 5) (vI vs 6) (vS vs 7) (vL vs 8) (vI vs 9) (vI vs 10)
theorem tpw91 : tp91 = tw91 := funext fun vs => by unfold tp91 tw91; rw [ue91, te91]
def th91 := fun xs => gOf zr91 zo91 (argsT A91 tp91 xs)
def tu92 := U t92
theorem ue92 : tu92 = t92 := U_eq _
theorem te92 : ta92 tu126 = t92 := by rw [ue126]; rfl
def tw92 (vs : List Vr) : Rs := ta92 tu126 (vI vs 0) (vL vs 1) (vI vs 2)
def tp92 (vs : List Vr) : Rs := tu92 (vI vs 0) (vL vs 1) (vI vs 2)
theorem tpw92 : tp92 = tw92 := funext fun vs => by unfold tp92 tw92; rw [ue92, te92]
def th92 := fun xs => gOf zr92 zo92 (argsT A92 tp92 xs)
def tu93 := U t93
theorem ue93 : tu93 = t93 := U_eq _
theorem te93 : t93 = t93 := rfl
def tw93 (vs : List Vr) : Rs := t93 (vI vs 0) (vL vs 1) (vI vs 2)
def tp93 (vs : List Vr) : Rs := tu93 (vI vs 0) (vL vs 1) (vI vs 2)
theorem tpw93 : tp93 = tw93 := funext fun vs => by unfold tp93 tw93; rw [ue93, te93]
def th93 := fun xs => gOf zr93 zo93 (argsT A93 tp93 xs)
def tu94 := U t94
theorem ue94 : tu94 = t94 := U_eq _
theorem te94 : t94 = t94 := rfl
def tw94 (vs : List Vr) : Rs := t94 (vI vs 0) (vL vs 1)
def tp94 (vs : List Vr) : Rs := tu94 (vI vs 0) (vL vs 1)
theorem tpw94 : tp94 = tw94 := funext fun vs => by unfold tp94 tw94; rw [ue94, te94]
def th94 := fun xs => gOf zr94 zo94 (argsT A94 tp94 xs)
def tu127 := U t127
theorem ue127 : tu127 = t127 := U_eq _
theorem te127 : ta127 tu92 = t127 := by rw [ue92]; rfl
def tw127 (vs : List Vr) : Rs := ta127 tu92 (vI vs 0) (vL vs 1) (vI vs 2)
def tp127 (vs : List Vr) : Rs := tu127 (vI vs 0) (vL vs 1) (vI vs 2)
theorem tpw127 : tp127 = tw127 := funext fun vs => by unfold tp127 tw127; rw [ue127, te127]
def th127 := fun xs => gOf zr127 zo127 (argsT A127 tp127 xs)
def tu95 := U t95
theorem ue95 : tu95 = t95 := U_eq _
theorem te95 : ta95 tu127 = t95 := by rw [ue127]; rfl
def tw95 (vs : List Vr) : Rs := ta95 tu127 (vI vs 0) (vL vs 1)
def tp95 (vs : List Vr) : Rs := tu95 (vI vs 0) (vL vs 1)
theorem tpw95 : tp95 = tw95 := funext fun vs => by unfold tp95 tw95; rw [ue95, te95]
def th95 := fun xs => gOf zr95 zo95 (argsT A95 tp95 xs)
def tu56 := U t56
theorem ue56 : tu56 = t56 := U_eq _
theorem te56 : ta56 tu57 tu91 tu92 tu93 tu94 tu95 = t56 := by rw [ue57, ue91, ue92, ue93, ue94, ue95]; rfl
def tw56 (vs : List Vr) : Rs := ta56 tu57 tu91 tu92 tu93 tu94 tu95 (vI vs 0) (vL vs 1)
def tp56 (vs : List Vr) : Rs := tu56 (vI vs 0) (vL vs 1)
theorem tpw56 : tp56 = tw56 := funext fun vs => by unfold tp56 tw56; rw [ue56, te56]
def th56 := fun xs => gOf zr56 zo56 (argsT A56 tp56 xs)
def tu67 := U t67
theorem ue67 : tu67 = t67 := U_eq _
theorem te67 : ta67 tu69 = t67 := by rw [ue69]; rfl
def tw67 (vs : List Vr) : Rs := ta67 tu69 (vS vs 0)
def tp67 (vs : List Vr) : Rs := tu67 (vS vs 0)
theorem tpw67 : tp67 = tw67 := funext fun vs => by unfold tp67 tw67; rw [ue67, te67]
def th67 := fun xs => gOf zr67 zo67 (argsT A67 tp67 xs)
def tu68 := U t68
theorem ue68 : tu68 = t68 := U_eq _
theorem te68 : ta68 tu56 tu67 tu69 = t68 := by rw [ue56, ue67, ue69]; rfl
def tw68 (vs : List Vr) : Rs := ta68 tu56 tu67 tu69 (vI vs 0) (vL vs 1)
def tp68 (vs : List Vr) : Rs := tu68 (vI vs 0) (vL vs 1)
theorem tpw68 : tp68 = tw68 := funext fun vs => by unfold tp68 tw68; rw [ue68, te68]
def th68 := fun xs => gOf zr68 zo68 (argsT A68 tp68 xs)
def tu79 := U t79
theorem ue79 : tu79 = t79 := U_eq _
theorem te79 : ta79 tu68 tu78 tu114 = t79 := by rw [ue68, ue78, ue114]; rfl
def tw79 (vs : List Vr) : Rs := ta79 tu68 tu78 tu114 (vS vs 0)
def tp79 (vs : List Vr) : Rs := tu79 (vS vs 0)
theorem tpw79 : tp79 = tw79 := funext fun vs => by unfold tp79 tw79; rw [ue79, te79]
def th79 := fun xs => gOf zr79 zo79 (argsT A79 tp79 xs)
def tu59 := U t59
theorem ue59 : tu59 = t59 := U_eq _
theorem te59 : ta59 tu57 = t59 := by rw [ue57]; rfl
def tw59 (vs : List Vr) : Rs := ta59 tu57 (vI vs 0) (vS vs 1)
def tp59 (vs : List Vr) : Rs := tu59 (vI vs 0) (vS vs 1)
theorem tpw59 : tp59 = tw59 := funext fun vs => by unfold tp59 tw59; rw [ue59, te59]
def th59 := fun xs => gOf zr59 zo59 (argsT A59 tp59 xs)
def tu70 := U t70
theorem ue70 : tu70 = t70 := U_eq _
theorem te70 : ta70 tu59 tu69 = t70 := by rw [ue59, ue69]; rfl
def tw70 (vs : List Vr) : Rs := ta70 tu59 tu69 (vI vs 0) (vS vs 1)
def tp70 (vs : List Vr) : Rs := tu70 (vI vs 0) (vS vs 1)
theorem tpw70 : tp70 = tw70 := funext fun vs => by unfold tp70 tw70; rw [ue70, te70]
def th70 := fun xs => gOf zr70 zo70 (argsT A70 tp70 xs)
def tu80 := U t80
theorem ue80 : tu80 = t80 := U_eq _
theorem te80 : ta80 tu70 tu78 = t80 := by rw [ue70, ue78]; rfl
def tw80 (vs : List Vr) : Rs := ta80 tu70 tu78 (vS vs 0)
def tp80 (vs : List Vr) : Rs := tu80 (vS vs 0)
theorem tpw80 : tp80 = tw80 := funext fun vs => by unfold tp80 tw80; rw [ue80, te80]
def th80 := fun xs => gOf zr80 zo80 (argsT A80 tp80 xs)
def tu58 := U t58
theorem ue58 : tu58 = t58 := U_eq _
theorem te58 : ta58 tu57 = t58 := by rw [ue57]; rfl
def tw58 (vs : List Vr) : Rs := ta58 tu57 (vL vs 0)
def tp58 (vs : List Vr) : Rs := tu58 (vL vs 0)
theorem tpw58 : tp58 = tw58 := funext fun vs => by unfold tp58 tw58; rw [ue58, te58]
def th58 := fun xs => gOf zr58 zo58 (argsT A58 tp58 xs)
def tu23 := U t23
theorem ue23 : tu23 = t23 := U_eq _
theorem te23 : ta23 tu56 tu57 tu58 tu59 = t23 := by rw [ue56, ue57, ue58, ue59]; rfl
def tw23 (vs : List Vr) : Rs := ta23 tu56 tu57 tu58 tu59 (vI vs 0) (vL vs 1) (vI vs 2) (vL vs 3) (vL vs 4)
def tp23 (vs : List Vr) : Rs := tu23 (vI vs 0) (vL vs 1) (vI vs 2) (vL vs 3) (vL vs 4)
theorem tpw23 : tp23 = tw23 := funext fun vs => by unfold tp23 tw23; rw [ue23, te23]
def th23 := fun xs => gOf zr23 zo23 (argsT A23 tp23 xs)
def tu30 := U t30
theorem ue30 : tu30 = t30 := U_eq _
theorem te30 : ta30 tu23 tu67 tu68 tu69 tu70 = t30 := by rw [ue23, ue67, ue68, ue69, ue70]; rfl
def tw30 (vs : List Vr) : Rs := ta30 tu23 tu67 tu68 tu69 tu70 (vI vs 0) (vL vs 1) (vI vs 2) (vL vs 3) (vL vs 4)
def tp30 (vs : List Vr) : Rs := tu30 (vI vs 0) (vL vs 1) (vI vs 2) (vL vs 3) (vL vs 4)
theorem tpw30 : tp30 = tw30 := funext fun vs => by unfold tp30 tw30; rw [ue30, te30]
def th30 := fun xs => gOf zr30 zo30 (argsT A30 tp30 xs)
def tu36 := U t36
theorem ue36 : tu36 = t36 := U_eq _
theorem te36 : ta36 tu30 tu77 tu78 tu79 tu80 = t36 := by rw [ue30, ue77, ue78, ue79, ue80]; rfl
def tw36 (vs : List Vr) : Rs := ta36 tu30 tu77 tu78 tu79 tu80 (vS vs 0)
def tp36 (vs : List Vr) : Rs := tu36 (vS vs 0)
theorem tpw36 : tp36 = tw36 := funext fun vs => by unfold tp36 tw36; rw [ue36, te36]
def th36 := fun xs => gOf zr36 zo36 (argsT A36 tp36 xs)
def tu136 := U t136
theorem ue136 : tu136 = t136 := U_eq _
theorem te136 : t136 = t136 := rfl
def tw136 (vs : List Vr) : Rs := t136 (vS vs 0)
def tp136 (vs : List Vr) : Rs := tu136 (vS vs 0)
theorem tpw136 : tp136 = tw136 := funext fun vs => by unfold tp136 tw136; rw [ue136, te136]
def th136 := fun xs => gOf zr136 zo136 (argsT A136 tp136 xs)
def tu116 := U t116
theorem ue116 : tu116 = t116 := U_eq _
theorem te116 : ta116 tu136 = t116 := by rw [ue136]; rfl
def tw116 (vs : List Vr) : Rs := ta116 tu136 (vS vs 0) (vB vs 1)
def tp116 (vs : List Vr) : Rs := tu116 (vS vs 0) (vB vs 1)
theorem tpw116 : tp116 = tw116 := funext fun vs => by unfold tp116 tw116; rw [ue116, te116]
def th116 := fun xs => gOf zr116 zo116 (argsT A116 tp116 xs)
def tu119 := U t119
theorem ue119 : tu119 = t119 := U_eq _
theorem te119 : t119 = t119 := rfl
def tw119 (vs : List Vr) : Rs := t119 (vS vs 0) (vB vs 1) (vI vs 2)
def tp119 (vs : List Vr) : Rs := tu119 (vS vs 0) (vB vs 1) (vI vs 2)
theorem tpw119 : tp119 = tw119 := funext fun vs => by unfold tp119 tw119; rw [ue119, te119]
def th119 := fun xs => gOf zr119 zo119 (argsT A119 tp119 xs)
def tu82 := U t82
theorem ue82 : tu82 = t82 := U_eq _
theorem te82 : ta82 tu116 tu119 = t82 := by rw [ue116, ue119]; rfl
def tw82 (vs : List Vr) : Rs := ta82 tu116 tu119 (vS vs 0) (vB vs 1)
def tp82 (vs : List Vr) : Rs := tu82 (vS vs 0) (vB vs 1)
theorem tpw82 : tp82 = tw82 := funext fun vs => by unfold tp82 tw82; rw [ue82, te82]
def th82 := fun xs => gOf zr82 zo82 (argsT A82 tp82 xs)
def tu117 := U t117
theorem ue117 : tu117 = t117 := U_eq _
theorem te117 : ta117 tu116 = t117 := by rw [ue116]; rfl
def tw117 (vs : List Vr) : Rs := ta117 tu116 (vS vs 0) (vB vs 1) (vI vs 2)
def tp117 (vs : List Vr) : Rs := tu117 (vS vs 0) (vB vs 1) (vI vs 2)
theorem tpw117 : tp117 = tw117 := funext fun vs => by unfold tp117 tw117; rw [ue117, te117]
def th117 := fun xs => gOf zr117 zo117 (argsT A117 tp117 xs)
def tu115 := U t115
theorem ue115 : tu115 = t115 := U_eq _
theorem te115 : ta115 tu82 tu116 tu117 = t115 := by rw [ue82, ue116, ue117]; rfl
def tw115 (vs : List Vr) : Rs := ta115 tu82 tu116 tu117 (vS vs 0) (vB vs 1)
def tp115 (vs : List Vr) : Rs := tu115 (vS vs 0) (vB vs 1)
theorem tpw115 : tp115 = tw115 := funext fun vs => by unfold tp115 tw115; rw [ue115, te115]
def th115 := fun xs => gOf zr115 zo115 (argsT A115 tp115 xs)
def tu63 := U t63
theorem ue63 : tu63 = t63 := U_eq _
theorem te63 : t63 = t63 := rfl
def tw63 (vs : List Vr) : Rs := t63 (vI vs 0) (vI vs 1) (vI vs 2)
def tp63 (vs : List Vr) : Rs := tu63 (vI vs 0) (vI vs 1) (vI vs 2)
theorem tpw63 : tp63 = tw63 := funext fun vs => by unfold tp63 tw63; rw [ue63, te63]
def th63 := fun xs => gOf zr63 zo63 (argsT A63 tp63 xs)
def tu64 := U t64
theorem ue64 : tu64 = t64 := U_eq _
theorem te64 : ta64 tu63 = t64 := by rw [ue63]; rfl
def tw64 (vs : List Vr) : Rs := ta64 tu63 (vI vs 0) (vS vs 1)
def tp64 (vs : List Vr) : Rs := tu64 (vI vs 0) (vS vs 1)
theorem tpw64 : tp64 = tw64 := funext fun vs => by unfold tp64 tw64; rw [ue64, te64]
def th64 := fun xs => gOf zr64 zo64 (argsT A64 tp64 xs)
def tu118 := U t118
theorem ue118 : tu118 = t118 := U_eq _
theorem te118 : ta118 tu64 tu136 = t118 := by rw [ue64, ue136]; rfl
def tw118 (vs : List Vr) : Rs := ta118 tu64 tu136 (vS vs 0)
def tp118 (vs : List Vr) : Rs := tu118 (vS vs 0)
theorem tpw118 : tp118 = tw118 := funext fun vs => by unfold tp118 tw118; rw [ue118, te118]
def th118 := fun xs => gOf zr118 zo118 (argsT A118 tp118 xs)
def tu81 := U t81
theorem ue81 : tu81 = t81 := U_eq _
theorem te81 : ta81 tu82 tu115 tu116 tu117 tu118 = t81 := by rw [ue82, ue115, ue116, ue117, ue118]; rfl
def tw81 (vs : List Vr) : Rs := ta81 tu82 tu115 tu116 tu117 tu118 (vS vs 0) (vB vs 1)
def tp81 (vs : List Vr) : Rs := tu81 (vS vs 0) (vB vs 1)
theorem tpw81 : tp81 = tw81 := funext fun vs => by unfold tp81 tw81; rw [ue81, te81]
def th81 := fun xs => gOf zr81 zo81 (argsT A81 tp81 xs)
def tu65 := U t65
theorem ue65 : tu65 = t65 := U_eq _
theorem te65 : ta65 tu63 = t65 := by rw [ue63]; rfl
def tw65 (vs : List Vr) : Rs := ta65 tu63 (vL vs 0)
def tp65 (vs : List Vr) : Rs := tu65 (vL vs 0)
theorem tpw65 : tp65 = tw65 := funext fun vs => by unfold tp65 tw65; rw [ue65, te65]
def th65 := fun xs => gOf zr65 zo65 (argsT A65 tp65 xs)
def tu141 := U t141
theorem ue141 : tu141 = t141 := U_eq _
theorem te141 : t141 = t141 := rfl
def tw141 (vs : List Vr) : Rs := t141 (vI vs 0)
def tp141 (vs : List Vr) : Rs := tu141 (vI vs 0)
theorem tpw141 : tp141 = tw141 := funext fun vs => by unfold tp141 tw141; rw [ue141, te141]
def th141 := fun xs => gOf zr141 zo141 (argsT A141 tp141 xs)
def tu130 := U t130
theorem ue130 : tu130 = t130 := U_eq _
theorem te130 : ta130 tu63 tu141 = t130 := by rw [ue63, ue141]; rfl
def tw130 (vs : List Vr) : Rs := ta130 tu63 tu141 (vS vs 0)
def tp130 (vs : List Vr) : Rs := tu130 (vS vs 0)
theorem tpw130 : tp130 = tw130 := funext fun vs => by unfold tp130 tw130; rw [ue130, te130]
def th130 := fun xs => gOf zr130 zo130 (argsT A130 tp130 xs)
def tu142 := U t142
theorem ue142 : tu142 = t142 := U_eq _
theorem te142 : ta142 tu63 tu141 = t142 := by rw [ue63, ue141]; rfl
def tw142 (vs : List Vr) : Rs := ta142 tu63 tu141 (vS vs 0)
def tp142 (vs : List Vr) : Rs := tu142 (vS vs 0)
theorem tpw142 : tp142 = tw142 := funext fun vs => by unfold tp142 tw142; rw [ue142, te142]
def th142 := fun xs => gOf zr142 zo142 (argsT A142 tp142 xs)
def tu132 := U t132
theorem ue132 : tu132 = t132 := U_eq _
theorem te132 : t132 = t132 := rfl
def tw132 (vs : List Vr) : Rs := t132 (vI vs 0) (vL vs 1) (vI vs 2)
def tp132 (vs : List Vr) : Rs := tu132 (vI vs 0) (vL vs 1) (vI vs 2)
theorem tpw132 : tp132 = tw132 := funext fun vs => by unfold tp132 tw132; rw [ue132, te132]
def th132 := fun xs => gOf zr132 zo132 (argsT A132 tp132 xs)
def tu131 := U t131
theorem ue131 : tu131 = t131 := U_eq _
theorem te131 : ta131 tu132 tu142 = t131 := by rw [ue132, ue142]; rfl
def tw131 (vs : List Vr) : Rs := ta131 tu132 tu142 (vI vs 0) (vL vs 1) (vI vs 2) (vI vs 3) (vI vs 4) (vI vs 5) (vI vs 6) (vS vs 7) (vL vs 8) (vI vs 9) (vI vs 10)
def tp131 (vs : List Vr) : Rs := tu131 (vI vs 0) (vL vs 1) (vI vs 2) (vI vs 3) (vI vs 4) (vI vs 5) (vI vs 6) (vS vs 7) (vL vs 8) (vI vs 9) (vI vs 10)
theorem tpw131 : tp131 = tw131 := funext fun vs => by unfold tp131 tw131; rw [ue131, te131]
def th131 := fun xs => gOf zr131 zo131 (argsT A131 tp131 xs)
def tu99 := U t99
theorem ue99 : tu99 = t99 := U_eq _
theorem te99 : ta99 tu63 tu130 tu131 = t99 := by rw [ue63, ue130, ue131]; rfl
def tw99 (vs : List Vr) : Rs := ta99 tu63 tu130 tu131 (vI vs 0) (vL vs 1) (vI vs 2) (vI vs 3) (vI vs 4) (vI vs 5) (vI vs 6) (vS vs 7) (vL vs 8) (vI vs 9) (vI vs 10)
def tp99 (vs : List Vr) : Rs := tu99 (vI vs 0) (vL vs 1) (vI vs 2) (vI vs 3) (vI vs 4) (vI vs 5) (vI vs 6) (vS vs 7) (vL vs 8) (vI vs 9) (vI vs 10)
theorem tpw99 : tp99 = tw99 := funext fun vs => by unfold tp99 tw99; rw [ue99, te99]
def th99 := fun xs => gOf zr99 zo99 (argsT A99 tp99 xs)
def tu133 := U t133
theorem ue133 : tu133 = t133 := U_eq _
theorem te133 : t133 = t133 := rfl
def tw133 (vs : List Vr) : Rs := t133 (vL vs 0) (vI vs 1)
def tp133 (vs : List Vr) : Rs := tu133 (vL vs 0) (vI vs 1)
theorem tpw133 : tp133 = tw133 := funext fun vs => by unfold tp133 tw133; rw [ue133, te133]
def th133 := fun xs => gOf zr133 zo133 (argsT A133 tp133 xs)
def tu101 := U t101
theorem ue101 : tu101 = t101 := U_eq _
theorem te101 : ta101 tu133 = t101 := by rw [ue133]; rfl
def tw101 (vs : List Vr) : Rs := ta101 tu133 (vL vs 0) (vI vs 1)
def tp101 (vs : List Vr) : Rs := tu101 (vL vs 0) (vI vs 1)
theorem tpw101 : tp101 = tw101 := funext fun vs => by unfold tp101 tw101; rw [ue101, te101]
def th101 := fun xs => gOf zr101 zo101 (argsT A101 tp101 xs)
def tu100 := U t100
theorem ue100 : tu100 = t100 := U_eq _
theorem te100 : ta100 tu101 tu132 = t100 := by rw [ue101, ue132]; rfl
def tw100 (vs : List Vr) : Rs := ta100 tu101 tu132 (vI vs 0) (vL vs 1) (vI vs 2)
def tp100 (vs : List Vr) : Rs := tu100 (vI vs 0) (vL vs 1) (vI vs 2)
theorem tpw100 : tp100 = tw100 := funext fun vs => by unfold tp100 tw100; rw [ue100, te100]
def th100 := fun xs => gOf zr100 zo100 (argsT A100 tp100 xs)
def tu102 := U t102
theorem ue102 : tu102 = t102 := U_eq _
theorem te102 : t102 = t102 := rfl
def tw102 (vs : List Vr) : Rs := t102 (vI vs 0) (vL vs 1) (vI vs 2)
def tp102 (vs : List Vr) : Rs := tu102 (vI vs 0) (vL vs 1) (vI vs 2)
theorem tpw102 : tp102 = tw102 := funext fun vs => by unfold tp102 tw102; rw [ue102, te102]
def th102 := fun xs => gOf zr102 zo102 (argsT A102 tp102 xs)
def tu103 := U t103
theorem ue103 : tu103 = t103 := U_eq _
theorem te103 : t103 = t103 := rfl
def tw103 (vs : List Vr) : Rs := t103 (vI vs 0) (vL vs 1)
def tp103 (vs : List Vr) : Rs := tu103 (vI vs 0) (vL vs 1)
theorem tpw103 : tp103 = tw103 := funext fun vs => by unfold tp103 tw103; rw [ue103, te103]
def th103 := fun xs => gOf zr103 zo103 (argsT A103 tp103 xs)
def tu135 := U t135
theorem ue135 : tu135 = t135 := U_eq _
theorem te135 : ta135 tu100 tu132 = t135 := by rw [ue100, ue132]; rfl
def tw135 (vs : List Vr) : Rs := ta135 tu100 tu132 (vI vs 0) (vL vs 1) (vI vs 2)
def tp135 (vs : List Vr) : Rs := tu135 (vI vs 0) (vL vs 1) (vI vs 2)
theorem tpw135 : tp135 = tw135 := funext fun vs => by unfold tp135 tw135; rw [ue135, te135]
def th135 := fun xs => gOf zr135 zo135 (argsT A135 tp135 xs)
def tu105 := U t105
theorem ue105 : tu105 = t105 := U_eq _
theorem te105 : ta105 tu135 = t105 := by rw [ue135]; rfl
def tw105 (vs : List Vr) : Rs := ta105 tu135 (vI vs 0) (vL vs 1) (vI vs 2) (vI vs 3) (vI vs 4) (vI vs 5) (vI vs 6) (vS vs 7) (vL vs 8) (vI vs 9) (vI vs 10)
def tp105 (vs : List Vr) : Rs := tu105 (vI vs 0) (vL vs 1) (vI vs 2) (vI vs 3) (vI vs 4) (vI vs 5) (vI vs 6) (vS vs 7) (vL vs 8) (vI vs 9) (vI vs 10)
theorem tpw105 : tp105 = tw105 := funext fun vs => by unfold tp105 tw105; rw [ue105, te105]
def th105 := fun xs => gOf zr105 zo105 (argsT A105 tp105 xs)
def tu134 := U t134
theorem ue134 : tu134 = t134 := U_eq _
theorem te134 : ta134 tu105 = t134 := by rw [ue105]; rfl
def tw134 (vs : List Vr) : Rs := ta134 tu105 (vL vs 0) (vI vs 1) (vL vs 2)
def tp134 (vs : List Vr) : Rs := tu134 (vL vs 0) (vI vs 1) (vL vs 2)
theorem tpw134 : tp134 = tw134 := funext fun vs => by unfold tp134 tw134; rw [ue134, te134]
def th134 := fun xs => gOf zr134 zo134 (argsT A134 tp134 xs)
def tu104 := U t104
theorem ue104 : tu104 = t104 := U_eq _
theorem te104 : ta104 tu134 = t104 := by rw [ue134]; rfl
def tw104 (vs : List Vr) : Rs := ta104 tu134 (vL vs 0) (vI vs 1) (vL vs 2)
def tp104 (vs : List Vr) : Rs := tu104 (vL vs 0) (vI vs 1) (vL vs 2)
theorem tpw104 : tp104 = tw104 := funext fun vs => by unfold tp104 tw104; rw [ue104, te104]
def th104 := fun xs => gOf zr104 zo104 (argsT A104 tp104 xs)
def tu66 := U t66
theorem ue66 : tu66 = t66 := U_eq _
theorem te66 : ta66 tu63 tu99 tu100 tu101 tu102 tu103 tu104 = t66 := by rw [ue63, ue99, ue100, ue101, ue102, ue103, ue104]; rfl
def tw66 (vs : List Vr) : Rs := ta66 tu63 tu99 tu100 tu101 tu102 tu103 tu104 (vI vs 0) (vL vs 1)
def tp66 (vs : List Vr) : Rs := tu66 (vI vs 0) (vL vs 1)
theorem tpw66 : tp66 = tw66 := funext fun vs => by unfold tp66 tw66; rw [ue66, te66]
def th66 := fun xs => gOf zr66 zo66 (argsT A66 tp66 xs)
def tu25 := U t25
theorem ue25 : tu25 = t25 := U_eq _
theorem te25 : ta25 tu63 tu64 tu65 tu66 = t25 := by rw [ue63, ue64, ue65, ue66]; rfl
def tw25 (vs : List Vr) : Rs := ta25 tu63 tu64 tu65 tu66 (vI vs 0) (vL vs 1) (vI vs 2) (vL vs 3) (vL vs 4)
def tp25 (vs : List Vr) : Rs := tu25 (vI vs 0) (vL vs 1) (vI vs 2) (vL vs 3) (vL vs 4)
theorem tpw25 : tp25 = tw25 := funext fun vs => by unfold tp25 tw25; rw [ue25, te25]
def th25 := fun xs => gOf zr25 zo25 (argsT A25 tp25 xs)
def tu37 := U t37
theorem ue37 : tu37 = t37 := U_eq _
theorem te37 : ta37 tu25 tu81 = t37 := by rw [ue25, ue81]; rfl
def tw37 (vs : List Vr) : Rs := ta37 tu25 tu81 (vS vs 0)
def tp37 (vs : List Vr) : Rs := tu37 (vS vs 0)
theorem tpw37 : tp37 = tw37 := funext fun vs => by unfold tp37 tw37; rw [ue37, te37]
def th37 := fun xs => gOf zr37 zo37 (argsT A37 tp37 xs)
def tu143 := U t143
theorem ue143 : tu143 = t143 := U_eq _
theorem te143 : t143 = t143 := rfl
def tw143 (vs : List Vr) : Rs := t143 (vS vs 0) (vI vs 1) (vS vs 2) (vI vs 3)
def tp143 (vs : List Vr) : Rs := tu143 (vS vs 0) (vI vs 1) (vS vs 2) (vI vs 3)
theorem tpw143 : tp143 = tw143 := funext fun vs => by unfold tp143 tw143; rw [ue143, te143]
def th143 := fun xs => gOf zr143 zo143 (argsT A143 tp143 xs)
def tu137 := U t137
theorem ue137 : tu137 = t137 := U_eq _
theorem te137 : ta137 tu143 = t137 := by rw [ue143]; rfl
def tw137 (vs : List Vr) : Rs := ta137 tu143 (vL vs 0) (vL vs 1)
def tp137 (vs : List Vr) : Rs := tu137 (vL vs 0) (vL vs 1)
theorem tpw137 : tp137 = tw137 := funext fun vs => by unfold tp137 tw137; rw [ue137, te137]
def th137 := fun xs => gOf zr137 zo137 (argsT A137 tp137 xs)
def tu120 := U t120
theorem ue120 : tu120 = t120 := U_eq _
theorem te120 : ta120 tu137 = t120 := by rw [ue137]; rfl
def tw120 (vs : List Vr) : Rs := ta120 tu137 (vI vs 0) (vI vs 1) (vI vs 2) (vI vs 3) (vI vs 4) (vS vs 5) (vL vs 6) (vI vs 7) (vI vs 8) (vI vs 9) (vI vs 10) (vI vs 11) (vI vs 12) (vI vs 13) (vS vs 14) (vL vs 15) (vI vs 16) (vI vs 17)
def tp120 (vs : List Vr) : Rs := tu120 (vI vs 0) (vI vs 1) (vI vs 2) (vI vs 3) (vI vs 4) (vS vs 5) (vL vs 6) (vI vs 7) (vI vs 8) (vI vs 9) (vI vs 10) (vI vs 11) (vI vs 12) (vI vs 13) (vS vs 14) (vL vs 15) (vI vs 16) (vI vs 17)
theorem tpw120 : tp120 = tw120 := funext fun vs => by unfold tp120 tw120; rw [ue120, te120]
def th120 := fun xs => gOf zr120 zo120 (argsT A120 tp120 xs)
def tu83 := U t83
theorem ue83 : tu83 = t83 := U_eq _
theorem te83 : ta83 tu120 = t83 := by rw [ue120]; rfl
def tw83 (vs : List Vr) : Rs := ta83 tu120 (vL vs 0) (vL vs 1)
def tp83 (vs : List Vr) : Rs := tu83 (vL vs 0) (vL vs 1)
theorem tpw83 : tp83 = tw83 := funext fun vs => by unfold tp83 tw83; rw [ue83, te83]
def th83 := fun xs => gOf zr83 zo83 (argsT A83 tp83 xs)
def tu42 := U t42
theorem ue42 : tu42 = t42 := U_eq _
theorem te42 : ta42 tu83 = t42 := by rw [ue83]; rfl
def tw42 (vs : List Vr) : Rs := ta42 tu83 (vI vs 0) (vL vs 1) (vI vs 2) (vL vs 3)
def tp42 (vs : List Vr) : Rs := tu42 (vI vs 0) (vL vs 1) (vI vs 2) (vL vs 3)
theorem tpw42 : tp42 = tw42 := funext fun vs => by unfold tp42 tw42; rw [ue42, te42]
def th42 := fun xs => gOf zr42 zo42 (argsT A42 tp42 xs)
def tu84 := U t84
theorem ue84 : tu84 = t84 := U_eq _
theorem te84 : t84 = t84 := rfl
def tw84 (vs : List Vr) : Rs := t84 (vI vs 0) (vI vs 1) (vI vs 2) (vI vs 3) (vI vs 4) (vI vs 5) (vI vs 6) (vI vs 7) (vI vs 8) (vI vs 9)
def tp84 (vs : List Vr) : Rs := tu84 (vI vs 0) (vI vs 1) (vI vs 2) (vI vs 3) (vI vs 4) (vI vs 5) (vI vs 6) (vI vs 7) (vI vs 8) (vI vs 9)
theorem tpw84 : tp84 = tw84 := funext fun vs => by unfold tp84 tw84; rw [ue84, te84]
def th84 := fun xs => gOf zr84 zo84 (argsT A84 tp84 xs)
def tu43 := U t43
theorem ue43 : tu43 = t43 := U_eq _
theorem te43 : ta43 tu84 = t43 := by rw [ue84]; rfl
def tw43 (vs : List Vr) : Rs := ta43 tu84 (vL vs 0) (vL vs 1)
def tp43 (vs : List Vr) : Rs := tu43 (vL vs 0) (vL vs 1)
theorem tpw43 : tp43 = tw43 := funext fun vs => by unfold tp43 tw43; rw [ue43, te43]
def th43 := fun xs => gOf zr43 zo43 (argsT A43 tp43 xs)
def tu121 := U t121
theorem ue121 : tu121 = t121 := U_eq _
theorem te121 : t121 = t121 := rfl
def tw121 (vs : List Vr) : Rs := t121 (vI vs 0) (vS vs 1) (vI vs 2) (vS vs 3)
def tp121 (vs : List Vr) : Rs := tu121 (vI vs 0) (vS vs 1) (vI vs 2) (vS vs 3)
theorem tpw121 : tp121 = tw121 := funext fun vs => by unfold tp121 tw121; rw [ue121, te121]
def th121 := fun xs => gOf zr121 zo121 (argsT A121 tp121 xs)
def tu85 := U t85
theorem ue85 : tu85 = t85 := U_eq _
theorem te85 : ta85 tu121 = t85 := by rw [ue121]; rfl
def tw85 (vs : List Vr) : Rs := ta85 tu121 (vI vs 0) (vI vs 1) (vI vs 2) (vI vs 3) (vS vs 4) (vI vs 5) (vI vs 6) (vI vs 7) (vI vs 8) (vS vs 9)
def tp85 (vs : List Vr) : Rs := tu85 (vI vs 0) (vI vs 1) (vI vs 2) (vI vs 3) (vS vs 4) (vI vs 5) (vI vs 6) (vI vs 7) (vI vs 8) (vS vs 9)
theorem tpw85 : tp85 = tw85 := funext fun vs => by unfold tp85 tw85; rw [ue85, te85]
def th85 := fun xs => gOf zr85 zo85 (argsT A85 tp85 xs)
def tu44 := U t44
theorem ue44 : tu44 = t44 := U_eq _
theorem te44 : ta44 tu85 = t44 := by rw [ue85]; rfl
def tw44 (vs : List Vr) : Rs := ta44 tu85 (vL vs 0) (vL vs 1)
def tp44 (vs : List Vr) : Rs := tu44 (vL vs 0) (vL vs 1)
theorem tpw44 : tp44 = tw44 := funext fun vs => by unfold tp44 tw44; rw [ue44, te44]
def th44 := fun xs => gOf zr44 zo44 (argsT A44 tp44 xs)
def tu14 := U t14
theorem ue14 : tu14 = t14 := U_eq _
theorem te14 : ta14 tu42 tu43 tu44 = t14 := by rw [ue42, ue43, ue44]; rfl
def tw14 (vs : List Vr) : Rs := ta14 tu42 tu43 tu44 (vI vs 0) (vL vs 1) (vI vs 2) (vL vs 3) (vL vs 4) (vI vs 5) (vL vs 6) (vI vs 7) (vL vs 8) (vL vs 9)
def tp14 (vs : List Vr) : Rs := tu14 (vI vs 0) (vL vs 1) (vI vs 2) (vL vs 3) (vL vs 4) (vI vs 5) (vL vs 6) (vI vs 7) (vL vs 8) (vL vs 9)
theorem tpw14 : tp14 = tw14 := funext fun vs => by unfold tp14 tw14; rw [ue14, te14]
def th14 := fun xs => gOf zr14 zo14 (argsT A14 tp14 xs)
def tu86 := U t86
theorem ue86 : tu86 = t86 := U_eq _
theorem te86 : t86 = t86 := rfl
def tw86 (vs : List Vr) : Rs := t86 (vI vs 0)
def tp86 (vs : List Vr) : Rs := tu86 (vI vs 0)
theorem tpw86 : tp86 = tw86 := funext fun vs => by unfold tp86 tw86; rw [ue86, te86]
def th86 := fun xs => gOf zr86 zo86 (argsT A86 tp86 xs)
def tu87 := U t87
theorem ue87 : tu87 = t87 := U_eq _
theorem te87 : ta87 tu86 = t87 := by rw [ue86]; rfl
def tw87 (vs : List Vr) : Rs := ta87 tu86 (vL vs 0) (vI vs 1)
def tp87 (vs : List Vr) : Rs := tu87 (vL vs 0) (vI vs 1)
theorem tpw87 : tp87 = tw87 := funext fun vs => by unfold tp87 tw87; rw [ue87, te87]
def th87 := fun xs => gOf zr87 zo87 (argsT A87 tp87 xs)
def tu51 := U t51
theorem ue51 : tu51 = t51 := U_eq _
theorem te51 : ta51 tu86 tu87 = t51 := by rw [ue86, ue87]; rfl
def tw51 (vs : List Vr) : Rs := ta51 tu86 tu87 (vL vs 0) (vI vs 1)
def tp51 (vs : List Vr) : Rs := tu51 (vL vs 0) (vI vs 1)
theorem tpw51 : tp51 = tw51 := funext fun vs => by unfold tp51 tw51; rw [ue51, te51]
def th51 := fun xs => gOf zr51 zo51 (argsT A51 tp51 xs)
def tu45 := U t45
theorem ue45 : tu45 = t45 := U_eq _
theorem te45 : ta45 tu51 = t45 := by rw [ue51]; rfl
def tw45 (vs : List Vr) : Rs := ta45 tu51 (vI vs 0) (vL vs 1) (vI vs 2)
def tp45 (vs : List Vr) : Rs := tu45 (vI vs 0) (vL vs 1) (vI vs 2)
theorem tpw45 : tp45 = tw45 := funext fun vs => by unfold tp45 tw45; rw [ue45, te45]
def th45 := fun xs => gOf zr45 zo45 (argsT A45 tp45 xs)
def tu46 := U t46
theorem ue46 : tu46 = t46 := U_eq _
theorem te46 : t46 = t46 := rfl
def tw46 (vs : List Vr) : Rs := t46 (vL vs 0) (vI vs 1)
def tp46 (vs : List Vr) : Rs := tu46 (vL vs 0) (vI vs 1)
theorem tpw46 : tp46 = tw46 := funext fun vs => by unfold tp46 tw46; rw [ue46, te46]
def th46 := fun xs => gOf zr46 zo46 (argsT A46 tp46 xs)
def tu47 := U t47
theorem ue47 : tu47 = t47 := U_eq _
theorem te47 : ta47 tu86 = t47 := by rw [ue86]; rfl
def tw47 (vs : List Vr) : Rs := ta47 tu86 (vL vs 0) (vI vs 1)
def tp47 (vs : List Vr) : Rs := tu47 (vL vs 0) (vI vs 1)
theorem tpw47 : tp47 = tw47 := funext fun vs => by unfold tp47 tw47; rw [ue47, te47]
def th47 := fun xs => gOf zr47 zo47 (argsT A47 tp47 xs)
def tu15 := U t15
theorem ue15 : tu15 = t15 := U_eq _
theorem te15 : ta15 tu45 tu46 tu47 = t15 := by rw [ue45, ue46, ue47]; rfl
def tw15 (vs : List Vr) : Rs := ta15 tu45 tu46 tu47 (vI vs 0) (vL vs 1) (vI vs 2) (vL vs 3) (vL vs 4) (vI vs 5)
def tp15 (vs : List Vr) : Rs := tu15 (vI vs 0) (vL vs 1) (vI vs 2) (vL vs 3) (vL vs 4) (vI vs 5)
theorem tpw15 : tp15 = tw15 := funext fun vs => by unfold tp15 tw15; rw [ue15, te15]
def th15 := fun xs => gOf zr15 zo15 (argsT A15 tp15 xs)
def tu88 := U t88
theorem ue88 : tu88 = t88 := U_eq _
theorem te88 : ta88 tu86 = t88 := by rw [ue86]; rfl
def tw88 (vs : List Vr) : Rs := ta88 tu86 (vL vs 0) (vI vs 1)
def tp88 (vs : List Vr) : Rs := tu88 (vL vs 0) (vI vs 1)
theorem tpw88 : tp88 = tw88 := funext fun vs => by unfold tp88 tw88; rw [ue88, te88]
def th88 := fun xs => gOf zr88 zo88 (argsT A88 tp88 xs)
def tu52 := U t52
theorem ue52 : tu52 = t52 := U_eq _
theorem te52 : ta52 tu86 tu88 = t52 := by rw [ue86, ue88]; rfl
def tw52 (vs : List Vr) : Rs := ta52 tu86 tu88 (vL vs 0) (vI vs 1)
def tp52 (vs : List Vr) : Rs := tu52 (vL vs 0) (vI vs 1)
theorem tpw52 : tp52 = tw52 := funext fun vs => by unfold tp52 tw52; rw [ue52, te52]
def th52 := fun xs => gOf zr52 zo52 (argsT A52 tp52 xs)
def tu48 := U t48
theorem ue48 : tu48 = t48 := U_eq _
theorem te48 : ta48 tu52 = t48 := by rw [ue52]; rfl
def tw48 (vs : List Vr) : Rs := ta48 tu52 (vI vs 0) (vL vs 1) (vI vs 2)
def tp48 (vs : List Vr) : Rs := tu48 (vI vs 0) (vL vs 1) (vI vs 2)
theorem tpw48 : tp48 = tw48 := funext fun vs => by unfold tp48 tw48; rw [ue48, te48]
def th48 := fun xs => gOf zr48 zo48 (argsT A48 tp48 xs)
def tu49 := U t49
theorem ue49 : tu49 = t49 := U_eq _
theorem te49 : t49 = t49 := rfl
def tw49 (vs : List Vr) : Rs := t49 (vL vs 0) (vI vs 1)
def tp49 (vs : List Vr) : Rs := tu49 (vL vs 0) (vI vs 1)
theorem tpw49 : tp49 = tw49 := funext fun vs => by unfold tp49 tw49; rw [ue49, te49]
def th49 := fun xs => gOf zr49 zo49 (argsT A49 tp49 xs)
def tu50 := U t50
theorem ue50 : tu50 = t50 := U_eq _
theorem te50 : ta50 tu86 = t50 := by rw [ue86]; rfl
def tw50 (vs : List Vr) : Rs := ta50 tu86 (vL vs 0) (vI vs 1)
def tp50 (vs : List Vr) : Rs := tu50 (vL vs 0) (vI vs 1)
theorem tpw50 : tp50 = tw50 := funext fun vs => by unfold tp50 tw50; rw [ue50, te50]
def th50 := fun xs => gOf zr50 zo50 (argsT A50 tp50 xs)
def tu16 := U t16
theorem ue16 : tu16 = t16 := U_eq _
theorem te16 : ta16 tu48 tu49 tu50 = t16 := by rw [ue48, ue49, ue50]; rfl
def tw16 (vs : List Vr) : Rs := ta16 tu48 tu49 tu50 (vI vs 0) (vL vs 1) (vI vs 2) (vL vs 3) (vL vs 4) (vI vs 5)
def tp16 (vs : List Vr) : Rs := tu16 (vI vs 0) (vL vs 1) (vI vs 2) (vL vs 3) (vL vs 4) (vI vs 5)
theorem tpw16 : tp16 = tw16 := funext fun vs => by unfold tp16 tw16; rw [ue16, te16]
def th16 := fun xs => gOf zr16 zo16 (argsT A16 tp16 xs)
def tu10 := U t10
theorem ue10 : tu10 = t10 := U_eq _
theorem te10 : ta10 tu14 tu15 tu16 tu36 tu37 = t10 := by rw [ue14, ue15, ue16, ue36, ue37]; rfl
def tw10 (vs : List Vr) : Rs := ta10 tu14 tu15 tu16 tu36 tu37 (vS vs 0)
def tp10 (vs : List Vr) : Rs := tu10 (vS vs 0)
theorem tpw10 : tp10 = tw10 := funext fun vs => by unfold tp10 tw10; rw [ue10, te10]
def th10 := fun xs => gOf zr10 zo10 (argsT A10 tp10 xs)
def sg57 : Sig := ⟨[.bor, .bor, .bor], .sc [.one (.b false)], [0, 1, 2, 6], []⟩
def sg69 : Sig := ⟨[.bor], .sc [.one (.s ⟨#[]⟩)], [0, 2, 3, 6, 9], []⟩
def sg113 : Sig := ⟨[.bor], .sc [.one (.i .i64 0), .one (.i .i64 0)], [0, 2, 3, 4, 5, 6, 14, 20, 36], [(9, dr 0 6)]⟩
def sg78 : Sig := ⟨[.bor, .bor, .bor], .fresh [[some (3, 1)], [none]], [0, 1, 2, 6, 7, 8, 9, 10, 11, 15, 25, 35], []⟩
def sg77 : Sig := ⟨[.bor, .bor], .sc [.one (.s ⟨#[]⟩), .one (.i .i64 0)], [0, 1, 4, 5, 6, 7, 25], [(4, dr 0 15)]⟩
def sg114 : Sig := ⟨[.bor, .bor], .fresh [[none, none, none, none, none, none, some (129, 2), none, none], [none]], [0, 1, 4, 5, 6, 7, 8, 9, 10, 11, 12, 13, 14, 22, 53, 70, 76, 92], [(4, [(22, 2, [])] ++ dr 0 22 ++ [(23, 1, [])]), (19, dr 0 7 ++ [(7, 1, [0, 1]), (8, 1, []), (9, 0, []), (10, 1, [])]), (1000012, [(512, 6, [129, 2])])]⟩
def sg139 : Sig := ⟨[.bor], .sc [.one (.b false)], [0, 2], []⟩
def sg124 : Sig := ⟨[.bor], .sc [.one (.b false)], [0, 2, 3, 7, 11, 24], []⟩
def sg125 : Sig := ⟨[.bor], .sc [.one (.b false)], [0, 2, 3, 15, 19, 26], []⟩
def sg126 : Sig := ⟨[.bor, .bor], .sc [.one (.i .i64 0)], [0, 1, 2, 4, 5, 10, 20], []⟩
def sg91 : Sig := ⟨[.bor, .bor], .sc [.one (.b false)], [0, 1, 2, 3, 4, 5, 6, 7, 23, 39, 40, 49, 62, 84, 89, 128], [(16, dr 0 32)]⟩
def sg92 : Sig := ⟨[.bor, .bor], .fresh [[some (4, 1)]], [0, 1, 2, 4, 5, 6, 7, 8, 9, 10, 11, 24, 33, 40, 47, 56, 72], [(17, dr 0 13)]⟩
def sg93 : Sig := ⟨[.bor, .bor], .sc [.one (.i .i64 0)], [0, 1, 2, 4, 5, 6, 7, 12, 23, 37], []⟩
def sg94 : Sig := ⟨[.bor], .sc [.one (.i .i64 0)], [0, 1, 2, 3, 4, 9], []⟩
def sg127 : Sig := ⟨[.bor, .bor], .sc [.one (.i .i64 0), .one (.i .i64 0)], [0, 1, 2, 4, 5, 6, 7, 8, 9, 16, 22], []⟩
def sg95 : Sig := ⟨[.bor], .sc [.one (.b false)], [0, 1, 2, 3, 4, 5, 6, 11, 31, 58], []⟩
def sg56 : Sig := ⟨[.bor], .sc [.one (.b false)], [0, 1, 2, 3, 4, 5, 6, 33, 38, 74, 81, 108], [(7, dr 0 29), (13, dr 0 25)]⟩
def sg67 : Sig := ⟨[.bor], .sc [.one (.s ⟨#[]⟩)], [0, 2], []⟩
def sg68 : Sig := ⟨[.bor], .sc [.one (.s ⟨#[]⟩)], [0, 1, 2, 3, 4, 5, 6, 9, 22, 72], [(3, dr 0 9), (8, dr 0 38 ++ [(38, 1, [])]), (12, dr 0 17 ++ [(17, 1, [])])]⟩
def sg79 : Sig := ⟨[.bor], .fresh [[none, some (64, 9)], [none]], [0, 2, 3, 4, 5, 6, 7, 8, 9, 22, 32, 42, 54], [(1000005, [(384, 1, [64, 9])])]⟩
def sg59 : Sig := ⟨[.bor], .sc [.one (.b false)], [0, 1, 2], []⟩
def sg70 : Sig := ⟨[.bor], .sc [.one (.s ⟨#[]⟩)], [0, 1, 2, 5], [(3, dr 0 7)]⟩
def sg80 : Sig := ⟨[.bor], .sc [.agg [.i .i64 0, .s ⟨#[]⟩], .one (.b false)], [0, 2, 3, 4, 5, 6, 13, 25], [(4, [(7, 2, [])] ++ dr 0 7 ++ [(8, 1, [])])]⟩
def sg58 : Sig := ⟨[.bor], .sc [.one (.b false)], [0, 2, 3, 4, 7, 11, 60], [(7, dr 0 43)]⟩
def sg23 : Sig := ⟨[.bor], .sc [.one (.b false)], [0, 1, 2, 3, 4, 26, 31, 76], [(7, dr 0 38)]⟩
def sg30 : Sig := ⟨[.bor], .sc [.one (.s ⟨#[]⟩)], [0, 1, 2, 3, 4, 5, 6, 7, 10, 28, 67], [(3, dr 0 14), (8, dr 0 21 ++ [(21, 1, [])]), (14, dr 0 18 ++ [(18, 1, [])])]⟩
def sg36 : Sig := ⟨[.bor], .fresh [[none, some (64, 9), none, some (90, 5), some (81, 5)], [none]], [0, 2, 3, 4, 5, 6, 7, 8, 10, 11, 12, 13, 14, 15, 16, 17, 18, 19, 20, 40, 56, 66, 103, 109, 134, 156], [(7, [(5, 2, [])] ++ dr 0 5 ++ [(6, 1, [])]), (14, dr 0 18 ++ [(18, 1, [0, 1]), (19, 1, []), (20, 0, []), (21, 1, [])]), (27, dr 0 13 ++ [(13, 1, [0, 1]), (14, 1, []), (15, 0, []), (16, 1, [])]), (1000008, [(640, 3, [90, 5])]), (1000019, [(640, 4, [81, 5])])]⟩
def sg136 : Sig := ⟨[.bor], .sc [.one (.i .i64 0), .one (.i .i64 0)], [0, 2, 3, 4, 5, 6, 14, 29, 35], []⟩
def sg116 : Sig := ⟨[.ptr [none, none]], .sc [.one (.i .i64 0)], [0, 2, 3, 4, 20], []⟩
def sg119 : Sig := ⟨[.ptr [none, none], .bor], .sc [.one (.s ⟨#[]⟩)], [0, 1, 4, 5, 18], []⟩
def sg82 : Sig := ⟨[.ptr [none, none]], .sc [.one (.s ⟨#[]⟩)], [0, 2], []⟩
def sg117 : Sig := ⟨[.ptr [none, none], .bor], .sc [.one (.i .i64 0)], [0, 1, 4, 5, 10], []⟩
def sg115 : Sig := ⟨[.ptr [none, none]], .fresh [[none, some (64, 9)]], [0, 2, 3, 4, 5, 10, 11, 12, 38, 39, 40], [(1000002, [(192, 1, [64, 9])]), (1000012, [(256, 6, [129, 2])])]⟩
def sg63 : Sig := ⟨[.bor, .bor, .bor], .sc [.one (.b false)], [0, 1, 2, 6], []⟩
def sg64 : Sig := ⟨[.bor], .sc [.one (.b false)], [0, 1, 2], []⟩
def sg118 : Sig := ⟨[.bor], .sc [.agg [.i .i64 0, .s ⟨#[]⟩], .one (.b false)], [0, 2, 3, 4, 5, 6, 23], []⟩
def sg81 : Sig := ⟨[.ptr [none, none]], .fresh [[none, some (64, 9), none, some (90, 5), some (81, 5)]], [0, 2, 3, 4, 5, 6, 7, 8, 41, 42, 43, 67, 68, 69], [(1000006, [(192, 3, [90, 5])]), (1000015, [(192, 4, [81, 5])])]⟩
def sg65 : Sig := ⟨[.bor], .sc [.one (.b false)], [0, 2, 3, 4, 5, 6, 7, 8, 54], [(4, dr 0 43)]⟩
def sg141 : Sig := ⟨[.bor], .sc [.one (.b false)], [0, 2], []⟩
def sg130 : Sig := ⟨[.bor], .sc [.one (.b false)], [0, 2, 3, 5, 6, 7, 19], []⟩
def sg142 : Sig := ⟨[.bor], .sc [.one (.b false)], [0, 2, 3, 5, 6, 7, 13], []⟩
def sg132 : Sig := ⟨[.rptr 2, .bor], .ep [.i .i64 0, .i .i64 0, .i .i64 0, .i .i64 0, .i .i64 0, .s ⟨#[]⟩, .l [], .i .i64 0, .i .i64 0], [0, 1, 4, 5, 10, 11, 12, 23], []⟩
def sg131 : Sig := ⟨[.rptr 2, .bor], .sc [.one (.b false)], [0, 1, 3, 4, 5, 6, 8, 9, 10, 11, 46], [(4, dr 0 32)]⟩
def sg99 : Sig := ⟨[.rptr 2, .bor], .sc [.one (.b false)], [0, 1, 3, 4, 20, 39, 41, 42, 48, 58], []⟩
def sg133 : Sig := ⟨[.bor, .bor], .sc [.one (.i .i64 0)], [0, 1, 4, 5, 7, 8, 9, 16], []⟩
def sg101 : Sig := ⟨[.bor, .bor], .sc [.one (.b false)], [0, 1, 4], []⟩
def sg100 : Sig := ⟨[.rptr 2, .bor], .fresh [[some (3, 1)]], [0, 1, 4, 5, 6, 7, 8, 10, 17, 27, 31, 32, 33, 34, 41], [(1000013, [(2880, 0, []), (3200, 0, [])])]⟩
def sg102 : Sig := ⟨[.rptr 2, .bor], .sc [.one (.i .i64 0)], [0, 1, 4, 5, 7, 9, 13, 14, 15, 16, 20, 21, 22, 23, 29], []⟩
def sg103 : Sig := ⟨[.rptr 2], .sc [.one (.i .i64 0)], [0, 2, 3, 5, 9, 10, 11, 12], []⟩
def sg135 : Sig := ⟨[.rptr 2, .bor], .sc [.one (.i .i64 0), .one (.i .i64 0)], [0, 1, 4, 5, 6, 7, 9, 10, 14, 15, 16, 17, 24], []⟩
def sg105 : Sig := ⟨[.rptr 2, .bor], .sc [.one (.b false)], [0, 1, 3, 4, 5, 6], []⟩
def sg134 : Sig := ⟨[.bor, .fnp 105 2], .sc [.one (.i .i64 0)], [0, 1, 4, 5, 7, 8, 9, 16], []⟩
def sg104 : Sig := ⟨[.bor, .fnp 105 2], .sc [.one (.b false)], [0, 1, 4], []⟩
def sg66 : Sig := ⟨[.bor], .sc [.one (.b false)], [0, 1, 2, 3, 4, 5, 7, 34, 36, 37, 38, 39, 70, 75, 76, 77, 78, 96], [(6, dr 0 28)]⟩
def sg25 : Sig := ⟨[.bor], .sc [.one (.b false)], [0, 1, 2, 3, 4, 6, 7, 8, 9, 50], [(4, dr 0 38)]⟩
def sg37 : Sig := ⟨[.bor], .fresh [[none, some (64, 9), none, some (90, 5), some (81, 5)], [none]], [0, 2, 3, 4, 5, 26], []⟩
def sg143 : Sig := ⟨[.bor, .bor], .sc [.one (.b false)], [0, 1, 2, 3, 4, 9, 14], []⟩
def sg137 : Sig := ⟨[.bor, .bor], .sc [.one (.b false)], [0, 1, 4, 5, 10, 14, 26], [(6, dr 0 10)]⟩
def sg120 : Sig := ⟨[.bor, .bor], .sc [.one (.b false)], [0, 1, 2, 3, 4, 9, 14, 19, 24, 29, 34, 40, 45, 50], []⟩
def sg83 : Sig := ⟨[.bor, .bor], .sc [.one (.b false)], [0, 1, 4, 5, 10, 14, 26], [(6, dr 0 10)]⟩
def sg42 : Sig := ⟨[.bor, .bor], .sc [.one (.b false)], [0, 1, 2, 3, 4, 9, 15], []⟩
def sg84 : Sig := ⟨[.bor, .bor], .sc [.one (.b false)], [0, 1, 2, 3, 4, 9, 14, 19, 24, 29], []⟩
def sg43 : Sig := ⟨[.bor, .bor], .sc [.one (.b false)], [0, 1, 4, 5, 10, 14, 26], [(6, dr 0 10)]⟩
def sg121 : Sig := ⟨[.bor, .bor], .sc [.one (.b false)], [0, 1, 2, 3, 4, 9, 14], []⟩
def sg85 : Sig := ⟨[.bor, .bor], .sc [.one (.b false)], [0, 1, 2, 3, 4, 9, 14, 19, 25], []⟩
def sg44 : Sig := ⟨[.bor, .bor], .sc [.one (.b false)], [0, 1, 4, 5, 10, 14, 26], [(6, dr 0 10)]⟩
def sg14 : Sig := ⟨[.bor, .bor], .sc [.one (.b false)], [0, 1, 2, 3, 4, 10, 15, 21, 27], []⟩
def sg86 : Sig := ⟨[.bor], .sc [.one (.s ⟨#[]⟩)], [0, 2, 3, 5, 7], []⟩
def sg87 : Sig := ⟨[.io [some (999999999, 2)], .bor], .sc [.one (.i .i64 0)], [0, 1, 4, 5, 9], []⟩
def sg51 : Sig := ⟨[.io [some (999999999, 9)], .bor], .sc [.one (.i .i64 0)], [0, 1, 4, 5, 9], []⟩
def sg45 : Sig := ⟨[.io [none, some (999999999, 9)], .bor], .sc [.one (.i .i64 0)], [0, 1, 2, 4], []⟩
def sg46 : Sig := ⟨[.io [some (999999999, 5)], .bor], .sc [.one (.i .i64 0)], [0, 1, 4, 5, 9], []⟩
def sg47 : Sig := ⟨[.io [some (999999999, 5)], .bor], .sc [.one (.i .i64 0)], [0, 1, 4, 5, 9], []⟩
def sg15 : Sig := ⟨[.io [none, some (999999999, 9), none, some (999999999, 5), some (999999999, 5)], .bor], .sc [.one (.i .i64 0)], [0, 1, 2, 4], []⟩
def sg88 : Sig := ⟨[.bor, .bor], .sc [.one (.i .i64 0)], [0, 1, 4, 5, 9, 19, 28], [(4, dr 0 8)]⟩
def sg52 : Sig := ⟨[.bor, .bor], .sc [.one (.i .i64 0)], [0, 1, 4, 5, 9, 18, 27, 36, 45, 54, 64, 75, 82, 91], [(19, dr 0 8)]⟩
def sg48 : Sig := ⟨[.bor, .bor], .sc [.one (.i .i64 0)], [0, 1, 2, 4, 10], []⟩
def sg49 : Sig := ⟨[.bor, .bor], .sc [.one (.i .i64 0)], [0, 1, 4, 5, 9, 18, 27, 36, 45, 54], []⟩
def sg50 : Sig := ⟨[.bor, .bor], .sc [.one (.i .i64 0)], [0, 1, 4, 5, 9, 18, 27, 36, 46, 57], [(16, dr 0 9)]⟩
def sg16 : Sig := ⟨[.bor, .bor], .sc [.one (.i .i64 0)], [0, 1, 2, 4, 10, 16, 22], []⟩
def sg10 : Sig := ⟨[.bor], .sc [.one (.b false)], [0, 2, 3, 4, 5, 6, 7, 8, 9, 10, 13, 32, 40, 43, 57, 62, 65], []⟩
def sig : Nat → Sig := lkF ⟨[], .fresh [], [], []⟩ [(57, sg57), (69, sg69), (113, sg113), (78, sg78), (77, sg77), (114, sg114), (139, sg139), (124, sg124), (125, sg125), (126, sg126), (91, sg91), (92, sg92), (93, sg93), (94, sg94), (127, sg127), (95, sg95), (56, sg56), (67, sg67), (68, sg68), (79, sg79), (59, sg59), (70, sg70), (80, sg80), (58, sg58), (23, sg23), (30, sg30), (36, sg36), (136, sg136), (116, sg116), (119, sg119), (82, sg82), (117, sg117), (115, sg115), (63, sg63), (64, sg64), (118, sg118), (81, sg81), (65, sg65), (141, sg141), (130, sg130), (142, sg142), (132, sg132), (131, sg131), (99, sg99), (133, sg133), (101, sg101), (100, sg100), (102, sg102), (103, sg103), (135, sg135), (105, sg105), (134, sg134), (104, sg104), (66, sg66), (25, sg25), (37, sg37), (143, sg143), (137, sg137), (120, sg120), (83, sg83), (42, sg42), (84, sg84), (43, sg43), (121, sg121), (85, sg85), (44, sg44), (14, sg14), (86, sg86), (87, sg87), (51, sg51), (45, sg45), (46, sg46), (47, sg47), (15, sg15), (88, sg88), (52, sg52), (48, sg48), (49, sg49), (50, sg50), (16, sg16), (10, sg10)]
def dep : Nat → Nat := lkF 0 [(57, 1), (69, 2), (113, 3), (78, 4), (77, 5), (114, 6), (139, 1), (124, 2), (125, 2), (126, 1), (91, 3), (92, 2), (93, 1), (94, 1), (127, 3), (95, 4), (56, 5), (67, 3), (68, 6), (79, 7), (59, 2), (70, 3), (80, 5), (58, 2), (23, 6), (30, 7), (36, 8), (136, 1), (116, 2), (119, 1), (82, 3), (117, 3), (115, 4), (63, 1), (64, 2), (118, 3), (81, 5), (65, 2), (141, 1), (130, 2), (142, 2), (132, 1), (131, 3), (99, 4), (133, 1), (101, 2), (100, 3), (102, 1), (103, 1), (135, 4), (105, 5), (134, 6), (104, 7), (66, 8), (25, 9), (37, 10), (143, 1), (137, 2), (120, 3), (83, 4), (42, 5), (84, 1), (43, 2), (121, 1), (85, 2), (44, 3), (14, 6), (86, 1), (87, 2), (51, 3), (45, 4), (46, 1), (47, 2), (15, 5), (88, 2), (52, 3), (48, 4), (49, 1), (50, 2), (16, 5), (10, 11)]
def gT : List (Nat × (List DV → Bool × List DV × List (List D))) := [(57, th57), (69, th69), (113, th113), (78, th78), (77, th77), (114, th114), (139, th139), (124, th124), (125, th125), (126, th126), (91, th91), (92, th92), (93, th93), (94, th94), (127, th127), (95, th95), (56, th56), (67, th67), (68, th68), (79, th79), (59, th59), (70, th70), (80, th80), (58, th58), (23, th23), (30, th30), (36, th36), (136, th136), (116, th116), (119, th119), (82, th82), (117, th117), (115, th115), (63, th63), (64, th64), (118, th118), (81, th81), (65, th65), (141, th141), (130, th130), (142, th142), (132, th132), (131, th131), (99, th99), (133, th133), (101, th101), (100, th100), (102, th102), (103, th103), (135, th135), (105, th105), (134, th134), (104, th104), (66, th66), (25, th25), (37, th37), (143, th143), (137, th137), (120, th120), (83, th83), (42, th42), (84, th84), (43, th43), (121, th121), (85, th85), (44, th44), (14, th14), (86, th86), (87, th87), (51, th51), (45, th45), (46, th46), (47, th47), (15, th15), (88, th88), (52, th52), (48, th48), (49, th49), (50, th50), (16, th16), (10, th10)]
def G : Nat → List DV → Bool × List DV × List (List D) := lkF (fun _ => (false, [], [])) gT
noncomputable def mkC (f : Nat) : Ctx := ⟨Try.prog, sig, Gd G dep (dep f), (sig f).keep, (sig f).ord⟩
noncomputable def bd (c : Code) (n : Nat) : Code := match nodeAt c n with | some (.loop a) => a | _ => .skip
def Rp (tw : List Vr → Rs) (C : Ctx) (S : LT) (fn : Func) (sg : Sig) (c : Code) (A : List TA) : Prop := ∀ vs, tw vs = bodyK C (lkS S) fn sg c (fillAs A 0 vs)
noncomputable def C57 := mkC 57
noncomputable def c57 := Try.f57.body.getD .skip
def ST57 : LT := []
theorem r57 : Rp tw57 C57 ST57 Try.f57 (sig 57) c57 A57 := fun vs => by kernel_rfl
theorem ok57 : OkS sig (Gd G dep (dep 57)) 57 th57 := fun xs q h => body_ok Try.func57 (c := c57) rfl A57 tw57 (sums_of (C := C57) (t := ST57) trivial) r57 (by rw [← tpw57]; exact opt_gOf h)
noncomputable def C69 := mkC 69
noncomputable def c69 := Try.f69.body.getD .skip
def T69o1 : TSt := ⟨[dI, dS, .own 448, dB, .any], [(448, .row 5 1)]⟩
def X69o1e1 : TSt := ⟨[dI, dS, .own 448, dB, dB], [(448, .row 5 1)]⟩
def L69o1 (m : Nat) (vs : List Vr) (K : KT) : Rs := la69o1 tu57 (vS vs 1) (vB vs 2) (fun n16 b17 l18 => K (.exit 0) (fillS X69o1e1 [.i (n16), jS vs 1, jB vs 2, .b (b17), .l (l18)])) m (vI vs 0) (vV vs 3) (vL vs 4)
def ST69 : LT := [(1, sumT T69o1 (L69o1 KK))]
noncomputable def b69o1 := bd c69 1
theorem q69o1 : Qp L69o1 C69 ST69 b69o1 2 T69o1 := fun m vs K => by kernel_rfl
theorem o69o1 : SumOk C69 KK (sumT T69o1 (L69o1 KK)) (.loop b69o1) := loop_ok T69o1 L69o1 (sums_of (t := ST69) ⟨fun _ _ h => absurd h (by decide), trivial⟩) (fun _ _ => rfl) q69o1
theorem r69 : Rp tw69 C69 ST69 Try.f69 (sig 69) c69 A69 := fun vs => by kernel_rfl
theorem ok69 : OkS sig (Gd G dep (dep 69)) 69 th69 := fun xs q h => body_ok Try.func69 (c := c69) rfl A69 tw69 (sums_of (C := C69) (t := ST69) ⟨sum_in (c' := .loop b69o1) (by kernel_rfl) (o69o1), trivial⟩) r69 (by rw [← tpw69]; exact opt_gOf h)
noncomputable def C113 := mkC 113
noncomputable def c113 := Try.f113.body.getD .skip
def T113o2 : TSt := ⟨[dS, dI, dI, dI, dI, dI, dB, .any, .any], []⟩
def X113o2e1 : TSt := ⟨[dS, dI, dI, dI, dI, dI, dB, dB, .any], []⟩
def L113o2 (m : Nat) (vs : List Vr) (K : KT) : Rs := la113o2 tu69 (vS vs 0) (vI vs 1) (vI vs 2) (vI vs 3) (vB vs 6) (fun n71 n72 b73 v74 => K (.exit 2) (fillS X113o2e1 [jS vs 0, jI vs 1, jI vs 2, jI vs 3, .i (n71), .i (n72), jB vs 6, .b (b73), .v (v74)])) m (vI vs 4) (vI vs 5) (vV vs 7) (vV vs 8)
def T113o0 : TSt := ⟨[dS, dI, dI, dI, .any, .any, .any, .any, .any], []⟩
def X113o0e1 : TSt := ⟨[dS, dI, dI, dI, dI, dI, dB, dB, dB], []⟩
def X113o0e2 : TSt := ⟨[dS, dI, dI, dI, .any, .any, dB, .any, .any], []⟩
def L113o0 (m : Nat) (vs : List Vr) (K : KT) : Rs := la113o0 tu69 (vS vs 0) (vI vs 1) (vI vs 2) (fun n88 n89 n90 b91 b92 b93 => K .ret (fillS X113o0e1 [jS vs 0, .i (n88), .i (n89), .i (n89), .i (n88), .i (n90), .b (b91), .b (b92), .b (b93)])) (fun n94 v95 v96 b97 v98 v99 => K (.exit 0) (fillS X113o0e2 [jS vs 0, jI vs 1, jI vs 2, .i (n94), .v (v95), .v (v96), .b (b97), .v (v98), .v (v99)])) m (vI vs 3) (vV vs 4) (vV vs 5) (vV vs 6) (vV vs 7) (vV vs 8)
def ST113 : LT := [(2, sumT T113o2 (L113o2 KK)), (0, sumT T113o0 (L113o0 KK))]
noncomputable def b113o2 := bd c113 2
noncomputable def b113o0 := bd c113 0
theorem q113o2 : Qp L113o2 C113 ST113 b113o2 3 T113o2 := fun m vs K => by kernel_rfl
theorem o113o2 : SumOk C113 KK (sumT T113o2 (L113o2 KK)) (.loop b113o2) := loop_ok T113o2 L113o2 (sums_of (t := ST113) ⟨fun _ _ h => absurd h (by decide), fun _ _ h => absurd h (by decide), trivial⟩) (fun _ _ => rfl) q113o2
theorem q113o0 : Qp L113o0 C113 ST113 b113o0 1 T113o0 := fun m vs K => by kernel_rfl
theorem o113o0 : SumOk C113 KK (sumT T113o0 (L113o0 KK)) (.loop b113o0) := loop_ok T113o0 L113o0 (sums_of (t := ST113) ⟨sum_in (c' := .loop b113o2) (by kernel_rfl) (o113o2), fun _ _ h => absurd h (by decide), trivial⟩) (fun _ _ => rfl) q113o0
theorem r113 : Rp tw113 C113 ST113 Try.f113 (sig 113) c113 A113 := fun vs => by kernel_rfl
theorem ok113 : OkS sig (Gd G dep (dep 113)) 113 th113 := fun xs q h => body_ok Try.func113 (c := c113) rfl A113 tw113 (sums_of (C := C113) (t := ST113) ⟨sum_in (c' := .loop b113o2) (by kernel_rfl) (o113o2), sum_in (c' := .loop b113o0) (by kernel_rfl) (o113o0), trivial⟩) r113 (by rw [← tpw113]; exact opt_gOf h)
noncomputable def C78 := mkC 78
noncomputable def c78 := Try.f78.body.getD .skip
def T78o0 : TSt := ⟨[dS, dI, dI, .nils, dI, .own 768, dI, .any, .any, .any, .any, .any], [(768, .row 3 1)]⟩
def X78o0e1 : TSt := ⟨[dS, dI, dI, .own 768, dI, .own 768, dI, .any, .any, dB, dB, .any], [(768, .row 3 1)]⟩
def X78o0e2 : TSt := ⟨[dS, dI, dI, .own 768, dI, .own 768, dI, dI, dI, dB, dB, dB], [(768, .row 3 1)]⟩
def X78o0e3 : TSt := ⟨[dS, dI, dI, .nils, dI, .own 768, dI, .any, .any, dB, .any, .any], [(768, .row 3 1)]⟩
def L78o0 (m : Nat) (vs : List Vr) (K : KT) : Rs := la78o0 tu113 (vS vs 0) (vI vs 2) (vI vs 3) (fun n32 n33 v34 v35 b36 b37 v38 l39 => K .ret (fillS X78o0e1 [jS vs 0, .i (n32), jI vs 2, .i ((-1 : Int)), .i (n33), .v (v34), .v (v35), .b (b36), .b (b37), .v (v38), .l (l39)])) (fun n40 n41 n42 n43 b44 b45 b46 l47 => K .ret (fillS X78o0e2 [jS vs 0, .i (n40), jI vs 2, .i ((-1 : Int)), .i (n41), .i (n42), .i (n43), .b (b44), .b (b45), .b (b46), .l (l47)])) (fun n48 n49 v50 v51 b52 v53 v54 l55 => K (.exit 0) (fillS X78o0e3 [jS vs 0, .i (n48), jI vs 2, jI vs 3, .i (n49), .v (v50), .v (v51), .b (b52), .v (v53), .v (v54), .l (l55)])) m (vI vs 1) (vI vs 4) (vV vs 5) (vV vs 6) (vV vs 7) (vV vs 8) (vV vs 9) (vL vs 10)
def ST78 : LT := [(0, sumT T78o0 (L78o0 KK))]
noncomputable def b78o0 := bd c78 0
theorem q78o0 : Qp L78o0 C78 ST78 b78o0 1 T78o0 := fun m vs K => by kernel_rfl
theorem o78o0 : SumOk C78 KK (sumT T78o0 (L78o0 KK)) (.loop b78o0) := loop_ok T78o0 L78o0 (sums_of (t := ST78) ⟨fun _ _ h => absurd h (by decide), trivial⟩) (fun _ _ => rfl) q78o0
theorem r78 : Rp tw78 C78 ST78 Try.f78 (sig 78) c78 A78 := fun vs => by kernel_rfl
theorem ok78 : OkS sig (Gd G dep (dep 78)) 78 th78 := fun xs q h => body_ok Try.func78 (c := c78) rfl A78 tw78 (sums_of (C := C78) (t := ST78) ⟨sum_in (c' := .loop b78o0) (by kernel_rfl) (o78o0), trivial⟩) r78 (by rw [← tpw78]; exact opt_gOf h)
noncomputable def C77 := mkC 77
noncomputable def c77 := Try.f77.body.getD .skip
def ST77 : LT := []
theorem r77 : Rp tw77 C77 ST77 Try.f77 (sig 77) c77 A77 := fun vs => by kernel_rfl
theorem ok77 : OkS sig (Gd G dep (dep 77)) 77 th77 := fun xs q h => body_ok Try.func77 (c := c77) rfl A77 tw77 (sums_of (C := C77) (t := ST77) trivial) r77 (by rw [← tpw77]; exact opt_gOf h)
noncomputable def C114 := mkC 114
noncomputable def c114 := Try.f114.body.getD .skip
def T114o3 : TSt := ⟨[dS, dI, .ptr 256 0, dI, .own 1152, dI, .ptr 512 0, dS, .own 3840, dI, .any, .any, .undef, dB, dB, dB, .any, .any], [(256, .box [dI, dI, dI, dI, dI, dS, .nils, dI, dI]), (512, .box [dI, dI, dI, dI, dI, dS, .own 32775, dI, dI]), (1152, .row 3 1), (3840, .row 3 1), (32775, .row 129 2)]⟩
def X114o3e1 : TSt := ⟨[dS, dI, .ptr 256 0, dI, .own 1152, dI, .ptr 512 0, dS, .own 3840, dI, dS, dI, .own 5632, dB, dB, dB, dB, dB], [(256, .box [dI, dI, dI, dI, dI, dS, .own 16391, dI, dI]), (512, .box [dI, dI, dI, dI, dI, dS, .own 16391, dI, dI]), (1152, .row 3 1), (3840, .row 3 1), (5632, .row 3 1), (16391, .row 129 2)]⟩
def X114o3e2 : TSt := ⟨[dS, dI, .ptr 256 0, dI, .own 1152, dI, .ptr 512 0, dS, .own 3840, dI, .any, .any, .undef, dB, dB, dB, dB, .any], [(256, .box [dI, dI, dI, dI, dI, dS, .nils, dI, dI]), (512, .box [dI, dI, dI, dI, dI, dS, .own 32775, dI, dI]), (1152, .row 3 1), (3840, .row 3 1), (32775, .row 129 2)]⟩
def L114o3 (m : Nat) (vs : List Vr) (K : KT) : Rs := la114o3 tu77 tu78 (vS vs 0) (vI vs 1) (vI vs 2) (vS vs 4) (vB vs 8) (vB vs 9) (vB vs 10) (vI vs 13) (vI vs 14) (vI vs 15) (vI vs 16) (vI vs 17) (vS vs 18) (vI vs 19) (vI vs 20) (vI vs 21) (vI vs 22) (vI vs 23) (vI vs 24) (vI vs 25) (vS vs 26) (vI vs 27) (vI vs 28) (vL vs 29) (vL vs 30) (fun n95 n96 s97 n98 b99 b100 l101 l102 => K .ret (fillS X114o3e1 [jS vs 0, jI vs 1, .i ((-1 : Int)), .i (n95), jS vs 4, .i (n96), .s (s97), .i (n98), jB vs 8, jB vs 9, jB vs 10, .b (b99), .b (b100), jI vs 21, jI vs 22, jI vs 23, jI vs 24, jI vs 25, jS vs 26, jI vs 27, jI vs 28, jI vs 21, jI vs 22, jI vs 23, jI vs 24, jI vs 25, jS vs 26, jI vs 27, jI vs 28, jL vs 29, jL vs 30, .l (l101), .l (l102)])) (fun n103 n104 v105 v106 b107 v108 l109 => K (.exit 0) (fillS X114o3e2 [jS vs 0, jI vs 1, jI vs 2, .i (n103), jS vs 4, .i (n104), .v (v105), .v (v106), jB vs 8, jB vs 9, jB vs 10, .b (b107), .v (v108), jI vs 13, jI vs 14, jI vs 15, jI vs 16, jI vs 17, jS vs 18, jI vs 19, jI vs 20, jI vs 21, jI vs 22, jI vs 23, jI vs 24, jI vs 25, jS vs 26, jI vs 27, jI vs 28, jL vs 29, jL vs 30, .l (l109)])) m (vI vs 3) (vI vs 5) (vV vs 6) (vV vs 7) (vV vs 11) (vV vs 12) (vL vs 31)
def ST114 : LT := [(3, sumT T114o3 (L114o3 KK))]
noncomputable def b114o3 := bd c114 3
theorem q114o3 : Qp L114o3 C114 ST114 b114o3 4 T114o3 := fun m vs K => by kernel_rfl
theorem o114o3 : SumOk C114 KK (sumT T114o3 (L114o3 KK)) (.loop b114o3) := loop_ok T114o3 L114o3 (sums_of (t := ST114) ⟨fun _ _ h => absurd h (by decide), trivial⟩) (fun _ _ => rfl) q114o3
theorem r114 : Rp tw114 C114 ST114 Try.f114 (sig 114) c114 A114 := fun vs => by kernel_rfl
theorem ok114 : OkS sig (Gd G dep (dep 114)) 114 th114 := fun xs q h => body_ok Try.func114 (c := c114) rfl A114 tw114 (sums_of (C := C114) (t := ST114) ⟨sum_in (c' := .loop b114o3) (by kernel_rfl) (o114o3), trivial⟩) r114 (by rw [← tpw114]; exact opt_gOf h)
noncomputable def C139 := mkC 139
noncomputable def c139 := Try.f139.body.getD .skip
def ST139 : LT := []
theorem r139 : Rp tw139 C139 ST139 Try.f139 (sig 139) c139 A139 := fun vs => by kernel_rfl
theorem ok139 : OkS sig (Gd G dep (dep 139)) 139 th139 := fun xs q h => body_ok Try.func139 (c := c139) rfl A139 tw139 (sums_of (C := C139) (t := ST139) trivial) r139 (by rw [← tpw139]; exact opt_gOf h)
noncomputable def C124 := mkC 124
noncomputable def c124 := Try.f124.body.getD .skip
def T124o1 : TSt := ⟨[dS, dB, dI, dB, .any, .any], []⟩
def X124o1e1 : TSt := ⟨[dS, dB, dI, dB, dB, dB], []⟩
def X124o1e2 : TSt := ⟨[dS, dB, dI, dB, dB, .any], []⟩
def L124o1 (m : Nat) (vs : List Vr) (K : KT) : Rs := la124o1 tu57 tu139 (vS vs 0) (vB vs 1) (vB vs 3) (fun n18 b19 b20 => K .ret (fillS X124o1e1 [jS vs 0, .b (false), .i (n18), jB vs 3, .b (b19), .b (b20)])) (fun n21 b22 v23 => K (.exit 0) (fillS X124o1e2 [jS vs 0, jB vs 1, .i (n21), jB vs 3, .b (b22), .v (v23)])) m (vI vs 2) (vV vs 4) (vV vs 5)
def ST124 : LT := [(1, sumT T124o1 (L124o1 KK))]
noncomputable def b124o1 := bd c124 1
theorem q124o1 : Qp L124o1 C124 ST124 b124o1 2 T124o1 := fun m vs K => by kernel_rfl
theorem o124o1 : SumOk C124 KK (sumT T124o1 (L124o1 KK)) (.loop b124o1) := loop_ok T124o1 L124o1 (sums_of (t := ST124) ⟨fun _ _ h => absurd h (by decide), trivial⟩) (fun _ _ => rfl) q124o1
theorem r124 : Rp tw124 C124 ST124 Try.f124 (sig 124) c124 A124 := fun vs => by kernel_rfl
theorem ok124 : OkS sig (Gd G dep (dep 124)) 124 th124 := fun xs q h => body_ok Try.func124 (c := c124) rfl A124 tw124 (sums_of (C := C124) (t := ST124) ⟨sum_in (c' := .loop b124o1) (by kernel_rfl) (o124o1), trivial⟩) r124 (by rw [← tpw124]; exact opt_gOf h)
noncomputable def C125 := mkC 125
noncomputable def c125 := Try.f125.body.getD .skip
def T125o1 : TSt := ⟨[dS, dB, dI, dB, .any, .any], []⟩
def X125o1e1 : TSt := ⟨[dS, dB, dI, dB, dB, dB], []⟩
def X125o1e2 : TSt := ⟨[dS, dB, dI, dB, dB, .any], []⟩
def L125o1 (m : Nat) (vs : List Vr) (K : KT) : Rs := la125o1 tu57 tu139 (vS vs 0) (vB vs 1) (vB vs 3) (fun n18 b19 b20 => K .ret (fillS X125o1e1 [jS vs 0, .b (false), .i (n18), jB vs 3, .b (b19), .b (b20)])) (fun n21 b22 v23 => K (.exit 0) (fillS X125o1e2 [jS vs 0, jB vs 1, .i (n21), jB vs 3, .b (b22), .v (v23)])) m (vI vs 2) (vV vs 4) (vV vs 5)
def ST125 : LT := [(1, sumT T125o1 (L125o1 KK))]
noncomputable def b125o1 := bd c125 1
theorem q125o1 : Qp L125o1 C125 ST125 b125o1 2 T125o1 := fun m vs K => by kernel_rfl
theorem o125o1 : SumOk C125 KK (sumT T125o1 (L125o1 KK)) (.loop b125o1) := loop_ok T125o1 L125o1 (sums_of (t := ST125) ⟨fun _ _ h => absurd h (by decide), trivial⟩) (fun _ _ => rfl) q125o1
theorem r125 : Rp tw125 C125 ST125 Try.f125 (sig 125) c125 A125 := fun vs => by kernel_rfl
theorem ok125 : OkS sig (Gd G dep (dep 125)) 125 th125 := fun xs q h => body_ok Try.func125 (c := c125) rfl A125 tw125 (sums_of (C := C125) (t := ST125) ⟨sum_in (c' := .loop b125o1) (by kernel_rfl) (o125o1), trivial⟩) r125 (by rw [← tpw125]; exact opt_gOf h)
noncomputable def C126 := mkC 126
noncomputable def c126 := Try.f126.body.getD .skip
def T126o0 : TSt := ⟨[.agg [dI, dL], dI, .ptr 128 0, dI, dI, .any, .any], [(128, .box [dI, dL])]⟩
def X126o0e1 : TSt := ⟨[.agg [dI, dL], dI, .ptr 128 0, dI, dI, dB, dB], [(128, .box [dI, dL])]⟩
def X126o0e2 : TSt := ⟨[.agg [dI, dL], dI, .ptr 128 0, dI, dI, dB, .any], [(128, .box [dI, dL])]⟩
def L126o0 (m : Nat) (vs : List Vr) (K : KT) : Rs := l126o0 (vI vs 0) (vL vs 1) (vI vs 2) (vI vs 3) (vI vs 7) (vL vs 8) (fun n29 b30 b31 => K .ret (fillS X126o0e1 [jI vs 0, jL vs 1, jI vs 2, .i (n29), .i (n29), .b (b30), .b (b31), jI vs 7, jL vs 8])) (fun n32 b33 v34 => K (.exit 0) (fillS X126o0e2 [jI vs 0, jL vs 1, jI vs 2, jI vs 3, .i (n32), .b (b33), .v (v34), jI vs 7, jL vs 8])) m (vI vs 4) (vV vs 5) (vV vs 6)
def ST126 : LT := [(0, sumT T126o0 (L126o0 KK))]
noncomputable def b126o0 := bd c126 0
theorem q126o0 : Qp L126o0 C126 ST126 b126o0 1 T126o0 := fun m vs K => by kernel_rfl
theorem o126o0 : SumOk C126 KK (sumT T126o0 (L126o0 KK)) (.loop b126o0) := loop_ok T126o0 L126o0 (sums_of (t := ST126) ⟨fun _ _ h => absurd h (by decide), trivial⟩) (fun _ _ => rfl) q126o0
theorem r126 : Rp tw126 C126 ST126 Try.f126 (sig 126) c126 A126 := fun vs => by kernel_rfl
theorem ok126 : OkS sig (Gd G dep (dep 126)) 126 th126 := fun xs q h => body_ok Try.func126 (c := c126) rfl A126 tw126 (sums_of (C := C126) (t := ST126) ⟨sum_in (c' := .loop b126o0) (by kernel_rfl) (o126o0), trivial⟩) r126 (by rw [← tpw126]; exact opt_gOf h)
noncomputable def C91 := mkC 91
noncomputable def c91 := Try.f91.body.getD .skip
def T91o5 : TSt := ⟨[.agg [dI, dL], .agg [dI, dI, dI, dI, dI, dS, dL, dI, dI], .ptr 128 0, .ptr 192 0, dB, dB, dI, .undef, dB, dI, dB, dB, dB, dB, .any, .any], [(128, .box [dI, dL]), (192, .box [dI, dI, dI, dI, dI, dS, dL, dI, dI])]⟩
def X91o5e1 : TSt := ⟨[.agg [dI, dL], .agg [dI, dI, dI, dI, dI, dS, dL, dI, dI], .ptr 128 0, .ptr 192 0, dB, dB, dI, .ptr 448 0, dB, dI, dB, dB, dB, dB, dB, dB], [(128, .box [dI, dL]), (192, .box [dI, dI, dI, dI, dI, dS, dL, dI, dI]), (448, .box [dS, dI])]⟩
def X91o5e2 : TSt := ⟨[.agg [dI, dL], .agg [dI, dI, dI, dI, dI, dS, dL, dI, dI], .ptr 128 0, .ptr 192 0, dB, dB, dI, .undef, dB, dI, dB, dB, dB, dB, dB, .any], [(128, .box [dI, dL]), (192, .box [dI, dI, dI, dI, dI, dS, dL, dI, dI])]⟩
def L91o5 (m : Nat) (vs : List Vr) (K : KT) : Rs := la91o5 tu57 tu124 tu125 tu126 (vI vs 0) (vL vs 1) (vI vs 2) (vI vs 3) (vI vs 4) (vI vs 5) (vI vs 6) (vS vs 7) (vL vs 8) (vI vs 9) (vI vs 10) (vB vs 11) (vB vs 12) (vB vs 14) (vI vs 15) (vB vs 16) (vB vs 17) (vB vs 18) (vB vs 19) (vI vs 22) (vL vs 23) (vI vs 24) (vI vs 25) (vI vs 26) (vI vs 27) (vI vs 28) (vS vs 29) (vL vs 30) (vI vs 31) (vI vs 32) (fun n109 b110 b111 s112 n113 => K .ret (fillS X91o5e1 [jI vs 0, jL vs 1, jI vs 2, jI vs 3, jI vs 4, jI vs 5, jI vs 6, jS vs 7, jL vs 8, jI vs 9, jI vs 10, .b (false), jB vs 12, .i (n109), jB vs 14, jI vs 15, jB vs 16, jB vs 17, jB vs 18, jB vs 19, .b (b110), .b (b111), jI vs 22, jL vs 23, jI vs 24, jI vs 25, jI vs 26, jI vs 27, jI vs 28, jS vs 29, jL vs 30, jI vs 31, jI vs 32, .s (s112), .i (n113)])) (fun n114 b115 v116 => K (.exit 1) (fillS X91o5e2 [jI vs 0, jL vs 1, jI vs 2, jI vs 3, jI vs 4, jI vs 5, jI vs 6, jS vs 7, jL vs 8, jI vs 9, jI vs 10, jB vs 11, jB vs 12, .i (n114), jB vs 14, jI vs 15, jB vs 16, jB vs 17, jB vs 18, jB vs 19, .b (b115), .v (v116), jI vs 22, jL vs 23, jI vs 24, jI vs 25, jI vs 26, jI vs 27, jI vs 28, jS vs 29, jL vs 30, jI vs 31, jI vs 32])) m (vI vs 13) (vV vs 20) (vV vs 21)
def ST91 : LT := [(5, sumT T91o5 (L91o5 KK))]
noncomputable def b91o5 := bd c91 5
theorem q91o5 : Qp L91o5 C91 ST91 b91o5 6 T91o5 := fun m vs K => by kernel_rfl
theorem o91o5 : SumOk C91 KK (sumT T91o5 (L91o5 KK)) (.loop b91o5) := loop_ok T91o5 L91o5 (sums_of (t := ST91) ⟨fun _ _ h => absurd h (by decide), trivial⟩) (fun _ _ => rfl) q91o5
theorem r91 : Rp tw91 C91 ST91 Try.f91 (sig 91) c91 A91 := fun vs => by kernel_rfl
theorem ok91 : OkS sig (Gd G dep (dep 91)) 91 th91 := fun xs q h => body_ok Try.func91 (c := c91) rfl A91 tw91 (sums_of (C := C91) (t := ST91) ⟨sum_in (c' := .loop b91o5) (by kernel_rfl) (o91o5), trivial⟩) r91 (by rw [← tpw91]; exact opt_gOf h)
noncomputable def C92 := mkC 92
noncomputable def c92 := Try.f92.body.getD .skip
def T92o6 : TSt := ⟨[.agg [dI, dL], dI, .ptr 128 0, .nils, .own 960, .own 1216, dI, dI, dI, dI, .any, dB, dB, dB, dB, .any, .any], [(128, .box [dI, dL]), (960, .row 4 1), (1216, .row 4 1)]⟩
def X92o6e1 : TSt := ⟨[.agg [dI, dL], dI, .ptr 128 0, .nils, .own 960, .own 1216, dI, dI, dI, dI, .any, dB, dB, dB, dB, dB, .any], [(128, .box [dI, dL]), (960, .row 4 1), (1216, .row 4 1)]⟩
def L92o6 (m : Nat) (vs : List Vr) (K : KT) : Rs := la92o6 tu126 (vI vs 0) (vL vs 1) (vI vs 2) (vI vs 3) (vI vs 4) (vI vs 5) (vB vs 8) (vB vs 9) (vB vs 10) (vB vs 11) (vI vs 14) (vL vs 15) (fun n417 v418 b419 v420 l421 l422 => K (.exit 4) (fillS X92o6e1 [jI vs 0, jL vs 1, jI vs 2, jI vs 3, jI vs 4, jI vs 5, .i (n417), .v (v418), jB vs 8, jB vs 9, jB vs 10, jB vs 11, .b (b419), .v (v420), jI vs 14, jL vs 15, .l (l421), .l (l422)])) m (vI vs 6) (vV vs 7) (vV vs 12) (vV vs 13) (vL vs 16) (vL vs 17)
def T92o3 : TSt := ⟨[.agg [dI, dL], dI, .ptr 128 0, .nils, .own 960, .own 1216, dI, dI, dI, .any, .any, dB, dB, .any, .any, .any, .any], [(128, .box [dI, dL]), (960, .row 4 1), (1216, .row 4 1)]⟩
def X92o3e1 : TSt := ⟨[.agg [dI, dL], dI, .ptr 128 0, .nils, .own 960, .own 1216, dI, dI, dI, .any, .any, dB, dB, dB, .any, .any, .any], [(128, .box [dI, dL]), (960, .row 4 1), (1216, .row 4 1)]⟩
def L92o3 (m : Nat) (vs : List Vr) (K : KT) : Rs := la92o3 tu126 (vI vs 0) (vL vs 1) (vI vs 2) (vI vs 3) (vI vs 4) (vB vs 8) (vB vs 9) (vI vs 14) (vL vs 15) (fun n465 v466 v467 b468 v469 v470 v471 l472 l473 => K (.exit 2) (fillS X92o3e1 [jI vs 0, jL vs 1, jI vs 2, jI vs 3, jI vs 4, .i (n465), .v (v466), .v (v467), jB vs 8, jB vs 9, .b (b468), .v (v469), .v (v470), .v (v471), jI vs 14, jL vs 15, .l (l472), .l (l473)])) m (vI vs 5) (vV vs 6) (vV vs 7) (vV vs 10) (vV vs 11) (vV vs 12) (vV vs 13) (vL vs 16) (vL vs 17)
def T92o1 : TSt := ⟨[.agg [dI, dL], dI, .ptr 128 0, .nils, .own 960, .own 1216, dI, dI, .any, .any, .any, dB, .any, .any, .any, .any, .any], [(128, .box [dI, dL]), (960, .row 4 1), (1216, .row 4 1)]⟩
def X92o1e1 : TSt := ⟨[.agg [dI, dL], dI, .ptr 128 0, .nils, .own 960, .own 1216, dI, dI, .any, .any, .any, dB, dB, .any, .any, .any, .any], [(128, .box [dI, dL]), (960, .row 4 1), (1216, .row 4 1)]⟩
def L92o1 (m : Nat) (vs : List Vr) (K : KT) : Rs := la92o1 tu126 (vI vs 0) (vL vs 1) (vI vs 2) (vI vs 3) (vB vs 8) (vI vs 14) (vL vs 15) (fun n501 v502 v503 v504 b505 v506 v507 v508 v509 l510 l511 => K (.exit 0) (fillS X92o1e1 [jI vs 0, jL vs 1, jI vs 2, jI vs 3, .i (n501), .v (v502), .v (v503), .v (v504), jB vs 8, .b (b505), .v (v506), .v (v507), .v (v508), .v (v509), jI vs 14, jL vs 15, .l (l510), .l (l511)])) m (vI vs 4) (vV vs 5) (vV vs 6) (vV vs 7) (vV vs 9) (vV vs 10) (vV vs 11) (vV vs 12) (vV vs 13) (vL vs 16) (vL vs 17)
def ST92 : LT := [(6, sumT T92o6 (L92o6 KK)), (3, sumT T92o3 (L92o3 KK)), (1, sumT T92o1 (L92o1 KK))]
noncomputable def b92o6 := bd c92 6
noncomputable def b92o3 := bd c92 3
noncomputable def b92o1 := bd c92 1
theorem q92o6 : Qp L92o6 C92 ST92 b92o6 7 T92o6 := fun m vs K => by kernel_rfl
theorem o92o6 : SumOk C92 KK (sumT T92o6 (L92o6 KK)) (.loop b92o6) := loop_ok T92o6 L92o6 (sums_of (t := ST92) ⟨fun _ _ h => absurd h (by decide), fun _ _ h => absurd h (by decide), fun _ _ h => absurd h (by decide), trivial⟩) (fun _ _ => rfl) q92o6
theorem q92o3 : Qp L92o3 C92 ST92 b92o3 4 T92o3 := fun m vs K => by kernel_rfl
theorem o92o3 : SumOk C92 KK (sumT T92o3 (L92o3 KK)) (.loop b92o3) := loop_ok T92o3 L92o3 (sums_of (t := ST92) ⟨sum_in (c' := .loop b92o6) (by kernel_rfl) (o92o6), fun _ _ h => absurd h (by decide), fun _ _ h => absurd h (by decide), trivial⟩) (fun _ _ => rfl) q92o3
theorem q92o1 : Qp L92o1 C92 ST92 b92o1 2 T92o1 := fun m vs K => by kernel_rfl
theorem o92o1 : SumOk C92 KK (sumT T92o1 (L92o1 KK)) (.loop b92o1) := loop_ok T92o1 L92o1 (sums_of (t := ST92) ⟨sum_in (c' := .loop b92o6) (by kernel_rfl) (o92o6), sum_in (c' := .loop b92o3) (by kernel_rfl) (o92o3), fun _ _ h => absurd h (by decide), trivial⟩) (fun _ _ => rfl) q92o1
theorem r92 : Rp tw92 C92 ST92 Try.f92 (sig 92) c92 A92 := fun vs => by kernel_rfl
theorem ok92 : OkS sig (Gd G dep (dep 92)) 92 th92 := fun xs q h => body_ok Try.func92 (c := c92) rfl A92 tw92 (sums_of (C := C92) (t := ST92) ⟨sum_in (c' := .loop b92o6) (by kernel_rfl) (o92o6), sum_in (c' := .loop b92o3) (by kernel_rfl) (o92o3), sum_in (c' := .loop b92o1) (by kernel_rfl) (o92o1), trivial⟩) r92 (by rw [← tpw92]; exact opt_gOf h)
noncomputable def C93 := mkC 93
noncomputable def c93 := Try.f93.body.getD .skip
def T93o2 : TSt := ⟨[.agg [dI, dL], dI, .ptr 128 0, dI, dI, dI, dI, dB, .any, .any], [(128, .box [dI, dL])]⟩
def X93o2e1 : TSt := ⟨[.agg [dI, dL], dI, .ptr 128 0, dI, dI, dI, dI, dB, dB, .any], [(128, .box [dI, dL])]⟩
def L93o2 (m : Nat) (vs : List Vr) (K : KT) : Rs := l93o2 (vI vs 0) (vL vs 1) (vI vs 2) (vI vs 3) (vI vs 5) (vB vs 7) (vI vs 10) (vL vs 11) (fun n106 n107 b108 v109 => K (.exit 2) (fillS X93o2e1 [jI vs 0, jL vs 1, jI vs 2, jI vs 3, .i (n106), jI vs 5, .i (n107), jB vs 7, .b (b108), .v (v109), jI vs 10, jL vs 11])) m (vI vs 4) (vI vs 6) (vV vs 8) (vV vs 9)
def T93o0 : TSt := ⟨[.agg [dI, dL], dI, .ptr 128 0, dI, dI, dI, .any, .any, .any, .any], [(128, .box [dI, dL])]⟩
def X93o0e1 : TSt := ⟨[.agg [dI, dL], dI, .ptr 128 0, dI, dI, dI, .any, dB, .any, .any], [(128, .box [dI, dL])]⟩
def L93o0 (m : Nat) (vs : List Vr) (K : KT) : Rs := l93o0 (vI vs 0) (vL vs 1) (vI vs 2) (vI vs 3) (vI vs 10) (vL vs 11) (fun n126 n127 v128 b129 v130 v131 => K (.exit 0) (fillS X93o0e1 [jI vs 0, jL vs 1, jI vs 2, jI vs 3, .i (n126), .i (n127), .v (v128), .b (b129), .v (v130), .v (v131), jI vs 10, jL vs 11])) m (vI vs 4) (vI vs 5) (vV vs 6) (vV vs 7) (vV vs 8) (vV vs 9)
def ST93 : LT := [(2, sumT T93o2 (L93o2 KK)), (0, sumT T93o0 (L93o0 KK))]
noncomputable def b93o2 := bd c93 2
noncomputable def b93o0 := bd c93 0
theorem q93o2 : Qp L93o2 C93 ST93 b93o2 3 T93o2 := fun m vs K => by kernel_rfl
theorem o93o2 : SumOk C93 KK (sumT T93o2 (L93o2 KK)) (.loop b93o2) := loop_ok T93o2 L93o2 (sums_of (t := ST93) ⟨fun _ _ h => absurd h (by decide), fun _ _ h => absurd h (by decide), trivial⟩) (fun _ _ => rfl) q93o2
theorem q93o0 : Qp L93o0 C93 ST93 b93o0 1 T93o0 := fun m vs K => by kernel_rfl
theorem o93o0 : SumOk C93 KK (sumT T93o0 (L93o0 KK)) (.loop b93o0) := loop_ok T93o0 L93o0 (sums_of (t := ST93) ⟨sum_in (c' := .loop b93o2) (by kernel_rfl) (o93o2), fun _ _ h => absurd h (by decide), trivial⟩) (fun _ _ => rfl) q93o0
theorem r93 : Rp tw93 C93 ST93 Try.f93 (sig 93) c93 A93 := fun vs => by kernel_rfl
theorem ok93 : OkS sig (Gd G dep (dep 93)) 93 th93 := fun xs q h => body_ok Try.func93 (c := c93) rfl A93 tw93 (sums_of (C := C93) (t := ST93) ⟨sum_in (c' := .loop b93o2) (by kernel_rfl) (o93o2), sum_in (c' := .loop b93o0) (by kernel_rfl) (o93o0), trivial⟩) r93 (by rw [← tpw93]; exact opt_gOf h)
noncomputable def C94 := mkC 94
noncomputable def c94 := Try.f94.body.getD .skip
def T94o0 : TSt := ⟨[.agg [dI, dL], .ptr 64 0, dI, dI, dI, .any], [(64, .box [dI, dL])]⟩
def X94o0e1 : TSt := ⟨[.agg [dI, dL], .ptr 64 0, dI, dI, dI, dB], [(64, .box [dI, dL])]⟩
def L94o0 (m : Nat) (vs : List Vr) (K : KT) : Rs := l94o0 (vI vs 0) (vL vs 1) (vI vs 2) (vI vs 6) (vL vs 7) (fun n26 n27 b28 => K (.exit 0) (fillS X94o0e1 [jI vs 0, jL vs 1, jI vs 2, .i (n26), .i (n27), .b (b28), jI vs 6, jL vs 7])) m (vI vs 3) (vI vs 4) (vV vs 5)
def ST94 : LT := [(0, sumT T94o0 (L94o0 KK))]
noncomputable def b94o0 := bd c94 0
theorem q94o0 : Qp L94o0 C94 ST94 b94o0 1 T94o0 := fun m vs K => by kernel_rfl
theorem o94o0 : SumOk C94 KK (sumT T94o0 (L94o0 KK)) (.loop b94o0) := loop_ok T94o0 L94o0 (sums_of (t := ST94) ⟨fun _ _ h => absurd h (by decide), trivial⟩) (fun _ _ => rfl) q94o0
theorem r94 : Rp tw94 C94 ST94 Try.f94 (sig 94) c94 A94 := fun vs => by kernel_rfl
theorem ok94 : OkS sig (Gd G dep (dep 94)) 94 th94 := fun xs q h => body_ok Try.func94 (c := c94) rfl A94 tw94 (sums_of (C := C94) (t := ST94) ⟨sum_in (c' := .loop b94o0) (by kernel_rfl) (o94o0), trivial⟩) r94 (by rw [← tpw94]; exact opt_gOf h)
noncomputable def C127 := mkC 127
noncomputable def c127 := Try.f127.body.getD .skip
def T127o0 : TSt := ⟨[.agg [dI, dL], dI, .ptr 128 0, dI, dI, .own 768, dI, dI, dI, .any, .any], [(128, .box [dI, dL]), (768, .row 4 1)]⟩
def X127o0e1 : TSt := ⟨[.agg [dI, dL], dI, .ptr 128 0, dI, dI, .own 768, dI, dI, dI, dB, .any], [(128, .box [dI, dL]), (768, .row 4 1)]⟩
def L127o0 (m : Nat) (vs : List Vr) (K : KT) : Rs := la127o0 tu92 (vI vs 0) (vL vs 1) (vI vs 2) (vI vs 3) (vI vs 4) (vI vs 10) (vL vs 11) (vL vs 12) (fun n45 n46 n47 b48 v49 => K (.exit 0) (fillS X127o0e1 [jI vs 0, jL vs 1, jI vs 2, jI vs 3, jI vs 4, .i (n45), .i (n46), .i (n47), .b (b48), .v (v49), jI vs 10, jL vs 11, jL vs 12])) m (vI vs 5) (vI vs 6) (vI vs 7) (vV vs 8) (vV vs 9)
def ST127 : LT := [(0, sumT T127o0 (L127o0 KK))]
noncomputable def b127o0 := bd c127 0
theorem q127o0 : Qp L127o0 C127 ST127 b127o0 1 T127o0 := fun m vs K => by kernel_rfl
theorem o127o0 : SumOk C127 KK (sumT T127o0 (L127o0 KK)) (.loop b127o0) := loop_ok T127o0 L127o0 (sums_of (t := ST127) ⟨fun _ _ h => absurd h (by decide), trivial⟩) (fun _ _ => rfl) q127o0
theorem r127 : Rp tw127 C127 ST127 Try.f127 (sig 127) c127 A127 := fun vs => by kernel_rfl
theorem ok127 : OkS sig (Gd G dep (dep 127)) 127 th127 := fun xs q h => body_ok Try.func127 (c := c127) rfl A127 tw127 (sums_of (C := C127) (t := ST127) ⟨sum_in (c' := .loop b127o0) (by kernel_rfl) (o127o0), trivial⟩) r127 (by rw [← tpw127]; exact opt_gOf h)
noncomputable def C95 := mkC 95
noncomputable def c95 := Try.f95.body.getD .skip
def T95o0 : TSt := ⟨[.agg [dI, dL], .ptr 64 0, dB, dI, .undef, .any, .any, .any, .any, .any], [(64, .box [dI, dL])]⟩
def X95o0e1 : TSt := ⟨[.agg [dI, dL], .ptr 64 0, dB, dI, .ptr 256 0, dI, dI, dB, dB, dB], [(64, .box [dI, dL]), (256, .box [dI, dI, dI, dI, dI, dS, dL, dI, dI])]⟩
def X95o0e2 : TSt := ⟨[.agg [dI, dL], .ptr 64 0, dB, dI, .undef, .any, .any, dB, .any, .any], [(64, .box [dI, dL])]⟩
def L95o0 (m : Nat) (vs : List Vr) (K : KT) : Rs := la95o0 tu127 (vI vs 0) (vL vs 1) (vB vs 2) (vI vs 9) (vL vs 10) (fun n42 n43 n44 b45 b46 b47 n48 n49 n50 n51 n52 s53 l54 n55 n56 => K .ret (fillS X95o0e1 [jI vs 0, jL vs 1, .b (true), .i (n42), .i (n43), .i (n44), .b (b45), .b (b46), .b (b47), jI vs 9, jL vs 10, .i (n48), .i (n49), .i (n50), .i (n51), .i (n52), .s (s53), .l (l54), .i (n55), .i (n56)])) (fun n57 v58 v59 b60 v61 v62 => K (.exit 0) (fillS X95o0e2 [jI vs 0, jL vs 1, jB vs 2, .i (n57), .v (v58), .v (v59), .b (b60), .v (v61), .v (v62), jI vs 9, jL vs 10])) m (vI vs 3) (vV vs 4) (vV vs 5) (vV vs 6) (vV vs 7) (vV vs 8)
def ST95 : LT := [(0, sumT T95o0 (L95o0 KK))]
noncomputable def b95o0 := bd c95 0
theorem q95o0 : Qp L95o0 C95 ST95 b95o0 1 T95o0 := fun m vs K => by kernel_rfl
theorem o95o0 : SumOk C95 KK (sumT T95o0 (L95o0 KK)) (.loop b95o0) := loop_ok T95o0 L95o0 (sums_of (t := ST95) ⟨fun _ _ h => absurd h (by decide), trivial⟩) (fun _ _ => rfl) q95o0
theorem r95 : Rp tw95 C95 ST95 Try.f95 (sig 95) c95 A95 := fun vs => by kernel_rfl
theorem ok95 : OkS sig (Gd G dep (dep 95)) 95 th95 := fun xs q h => body_ok Try.func95 (c := c95) rfl A95 tw95 (sums_of (C := C95) (t := ST95) ⟨sum_in (c' := .loop b95o0) (by kernel_rfl) (o95o0), trivial⟩) r95 (by rw [← tpw95]; exact opt_gOf h)
noncomputable def C56 := mkC 56
noncomputable def c56 := Try.f56.body.getD .skip
def T56o4 : TSt := ⟨[.agg [dI, dL], .ptr 64 0, dB, dI, .undef, .own 4864, dI, dB, dB, .any, .any, .any], [(64, .box [dI, dL]), (4864, .row 4 1)]⟩
def X56o4e1 : TSt := ⟨[.agg [dI, dL], .ptr 64 0, dB, dI, .undef, .own 4864, dI, dB, dB, .any, dB, dB], [(64, .box [dI, dL]), (4864, .row 4 1)]⟩
def X56o4e2 : TSt := ⟨[.agg [dI, dL], .ptr 64 0, dB, dI, .undef, .own 4864, dI, dB, dB, .any, dB, .any], [(64, .box [dI, dL]), (4864, .row 4 1)]⟩
def L56o4 (m : Nat) (vs : List Vr) (K : KT) : Rs := la56o4 tu57 tu91 tu92 tu93 tu94 tu95 (vI vs 0) (vL vs 1) (vB vs 2) (vI vs 3) (vB vs 5) (vB vs 6) (vI vs 10) (vL vs 11) (vL vs 12) (fun n95 v96 b97 b98 => K .ret (fillS X56o4e1 [jI vs 0, jL vs 1, .b (false), jI vs 3, .i (n95), jB vs 5, jB vs 6, .v (v96), .b (b97), .b (b98), jI vs 10, jL vs 11, jL vs 12])) (fun n99 v100 b101 v102 => K (.exit 2) (fillS X56o4e2 [jI vs 0, jL vs 1, jB vs 2, jI vs 3, .i (n99), jB vs 5, jB vs 6, .v (v100), .b (b101), .v (v102), jI vs 10, jL vs 11, jL vs 12])) m (vI vs 4) (vV vs 7) (vV vs 8) (vV vs 9)
def T56o1 : TSt := ⟨[.agg [dI, dL], .ptr 64 0, dB, dI, .undef, .undef, .undef, dB, .any, .any, .undef, .undef], [(64, .box [dI, dL])]⟩
def X56o1e1 : TSt := ⟨[.agg [dI, dL], .ptr 64 0, dB, dI, .ptr 256 0, .undef, .undef, dB, dB, dB, .undef, .undef], [(64, .box [dI, dL]), (256, .box [dI, dI, dI, dI, dI, dS, dL, dI, dI])]⟩
def X56o1e2 : TSt := ⟨[.agg [dI, dL], .ptr 64 0, dB, dI, .undef, .undef, .undef, dB, dB, .any, .undef, .undef], [(64, .box [dI, dL])]⟩
def L56o1 (m : Nat) (vs : List Vr) (K : KT) : Rs := la56o1 tu57 tu91 tu92 tu93 tu94 tu95 (vI vs 0) (vL vs 1) (vB vs 2) (vB vs 4) (vI vs 7) (vL vs 8) (fun n28 b29 b30 n31 n32 n33 n34 n35 s36 l37 n38 n39 => K .ret (fillS X56o1e1 [jI vs 0, jL vs 1, .b (false), .i (n28), jB vs 4, .b (b29), .b (b30), jI vs 7, jL vs 8, .i (n31), .i (n32), .i (n33), .i (n34), .i (n35), .s (s36), .l (l37), .i (n38), .i (n39)])) (fun n40 b41 v42 => K (.exit 0) (fillS X56o1e2 [jI vs 0, jL vs 1, jB vs 2, .i (n40), jB vs 4, .b (b41), .v (v42), jI vs 7, jL vs 8])) m (vI vs 3) (vV vs 5) (vV vs 6)
def ST56 : LT := [(4, sumT T56o4 (L56o4 KK)), (1, sumT T56o1 (L56o1 KK))]
noncomputable def b56o4 := bd c56 4
noncomputable def b56o1 := bd c56 1
theorem q56o4 : Qp L56o4 C56 ST56 b56o4 5 T56o4 := fun m vs K => by kernel_rfl
theorem o56o4 : SumOk C56 KK (sumT T56o4 (L56o4 KK)) (.loop b56o4) := loop_ok T56o4 L56o4 (sums_of (t := ST56) ⟨fun _ _ h => absurd h (by decide), fun _ _ h => absurd h (by decide), trivial⟩) (fun _ _ => rfl) q56o4
theorem q56o1 : Qp L56o1 C56 ST56 b56o1 2 T56o1 := fun m vs K => by kernel_rfl
theorem o56o1 : SumOk C56 KK (sumT T56o1 (L56o1 KK)) (.loop b56o1) := loop_ok T56o1 L56o1 (sums_of (t := ST56) ⟨sum_out (by kernel_rfl), fun _ _ h => absurd h (by decide), trivial⟩) (fun _ _ => rfl) q56o1
theorem r56 : Rp tw56 C56 ST56 Try.f56 (sig 56) c56 A56 := fun vs => by kernel_rfl
theorem ok56 : OkS sig (Gd G dep (dep 56)) 56 th56 := fun xs q h => body_ok Try.func56 (c := c56) rfl A56 tw56 (sums_of (C := C56) (t := ST56) ⟨sum_in (c' := .loop b56o4) (by kernel_rfl) (o56o4), sum_in (c' := .loop b56o1) (by kernel_rfl) (o56o1), trivial⟩) r56 (by rw [← tpw56]; exact opt_gOf h)
noncomputable def C67 := mkC 67
noncomputable def c67 := Try.f67.body.getD .skip
def ST67 : LT := []
theorem r67 : Rp tw67 C67 ST67 Try.f67 (sig 67) c67 A67 := fun vs => by kernel_rfl
theorem ok67 : OkS sig (Gd G dep (dep 67)) 67 th67 := fun xs q h => body_ok Try.func67 (c := c67) rfl A67 tw67 (sums_of (C := C67) (t := ST67) trivial) r67 (by rw [← tpw67]; exact opt_gOf h)
noncomputable def C68 := mkC 68
noncomputable def c68 := Try.f68.body.getD .skip
def T68o3 : TSt := ⟨[.agg [dI, dL], .ptr 64 0, dS, dS, dI, .ptr 320 0, dI, dB, dB, .any], [(64, .box [dI, dL]), (320, .box [dI, dI, dI, dI, dI, dS, dL, dI, dI])]⟩
def X68o3e1 : TSt := ⟨[.agg [dI, dL], .ptr 64 0, dS, dS, dI, .ptr 320 0, dI, dB, dB, dB], [(64, .box [dI, dL]), (320, .box [dI, dI, dI, dI, dI, dS, dL, dI, dI])]⟩
def L68o3 (m : Nat) (vs : List Vr) (K : KT) : Rs := la68o3 tu56 tu67 tu69 (vI vs 0) (vL vs 1) (vS vs 2) (vI vs 4) (vB vs 6) (vB vs 7) (vI vs 9) (vL vs 10) (vI vs 11) (vI vs 12) (vI vs 13) (vI vs 14) (vI vs 15) (vS vs 16) (vL vs 17) (vI vs 18) (vI vs 19) (fun s147 n148 b149 => K (.exit 2) (fillS X68o3e1 [jI vs 0, jL vs 1, jS vs 2, .s (s147), jI vs 4, .i (n148), jB vs 6, jB vs 7, .b (b149), jI vs 9, jL vs 10, jI vs 11, jI vs 12, jI vs 13, jI vs 14, jI vs 15, jS vs 16, jL vs 17, jI vs 18, jI vs 19])) m (vS vs 3) (vI vs 5) (vV vs 8)
def T68o1 : TSt := ⟨[.agg [dI, dL], .ptr 64 0, dS, dS, dI, .undef, .any, dB, .any, .any], [(64, .box [dI, dL])]⟩
def X68o1e1 : TSt := ⟨[.agg [dI, dL], .ptr 64 0, dS, dS, dI, .undef, .any, dB, dB, .any], [(64, .box [dI, dL])]⟩
def L68o1 (m : Nat) (vs : List Vr) (K : KT) : Rs := la68o1 tu56 tu67 tu69 (vI vs 0) (vL vs 1) (vS vs 2) (vB vs 6) (vI vs 9) (vL vs 10) (fun s164 n165 v166 b167 v168 => K (.exit 0) (fillS X68o1e1 [jI vs 0, jL vs 1, jS vs 2, .s (s164), .i (n165), .v (v166), jB vs 6, .b (b167), .v (v168), jI vs 9, jL vs 10])) m (vS vs 3) (vI vs 4) (vV vs 5) (vV vs 7) (vV vs 8)
def ST68 : LT := [(3, sumT T68o3 (L68o3 KK)), (1, sumT T68o1 (L68o1 KK))]
noncomputable def b68o3 := bd c68 3
noncomputable def b68o1 := bd c68 1
theorem q68o3 : Qp L68o3 C68 ST68 b68o3 4 T68o3 := fun m vs K => by kernel_rfl
theorem o68o3 : SumOk C68 KK (sumT T68o3 (L68o3 KK)) (.loop b68o3) := loop_ok T68o3 L68o3 (sums_of (t := ST68) ⟨fun _ _ h => absurd h (by decide), fun _ _ h => absurd h (by decide), trivial⟩) (fun _ _ => rfl) q68o3
theorem q68o1 : Qp L68o1 C68 ST68 b68o1 2 T68o1 := fun m vs K => by kernel_rfl
theorem o68o1 : SumOk C68 KK (sumT T68o1 (L68o1 KK)) (.loop b68o1) := loop_ok T68o1 L68o1 (sums_of (t := ST68) ⟨sum_in (c' := .loop b68o3) (by kernel_rfl) (o68o3), fun _ _ h => absurd h (by decide), trivial⟩) (fun _ _ => rfl) q68o1
theorem r68 : Rp tw68 C68 ST68 Try.f68 (sig 68) c68 A68 := fun vs => by kernel_rfl
theorem ok68 : OkS sig (Gd G dep (dep 68)) 68 th68 := fun xs q h => body_ok Try.func68 (c := c68) rfl A68 tw68 (sums_of (C := C68) (t := ST68) ⟨sum_in (c' := .loop b68o3) (by kernel_rfl) (o68o3), sum_in (c' := .loop b68o1) (by kernel_rfl) (o68o1), trivial⟩) r68 (by rw [← tpw68]; exact opt_gOf h)
noncomputable def C79 := mkC 79
noncomputable def c79 := Try.f79.body.getD .skip
def T79o1 : TSt := ⟨[dS, .ptr 128 0, dB, .own 768, dI, .ptr 384 0, dI, .undef, .any, dB, .any, .any, .undef], [(128, .box [dI, .nils]), (384, .box [dI, .own 24578]), (768, .row 3 1), (24578, .row 64 9)]⟩
def X79o1e1 : TSt := ⟨[dS, .ptr 128 0, dB, .own 768, dI, .ptr 384 0, dI, .ptr 512 0, dI, dB, dB, dB, .undef], [(128, .box [dI, .nils]), (384, .box [dI, .own 24578]), (512, .box [dI, dI, dI, dI, dI, dS, .own 32775, dI, dI]), (768, .row 3 1), (24578, .row 64 9), (32775, .row 129 2)]⟩
def X79o1e2 : TSt := ⟨[dS, .ptr 128 0, dB, .own 768, dI, .ptr 384 0, dI, .undef, .any, dB, dB, .any, .undef], [(128, .box [dI, .nils]), (384, .box [dI, .own 24578]), (768, .row 3 1), (24578, .row 64 9)]⟩
def L79o1 (m : Nat) (vs : List Vr) (K : KT) : Rs := la79o1 tu68 tu78 tu114 (vS vs 0) (vB vs 1) (vB vs 5) (vI vs 8) (vI vs 9) (vL vs 10) (fun n35 n36 n37 b38 b39 n40 n41 n42 n43 n44 s45 n46 n47 l48 l49 => K .ret (fillS X79o1e1 [jS vs 0, .b (false), .i (n35), .i (n36), .i (n37), jB vs 5, .b (b38), .b (b39), .i ((0 : Int)), jI vs 9, .i (n40), .i (n41), .i (n42), .i (n43), .i (n44), .s (s45), .i (n46), .i (n47), jL vs 10, .l (l48), .l (l49)])) (fun n50 n51 v52 b53 v54 l55 => K (.exit 0) (fillS X79o1e2 [jS vs 0, jB vs 1, .i (n50), .i (n51), .v (v52), jB vs 5, .b (b53), .v (v54), jI vs 8, jI vs 9, jL vs 10, .l (l55)])) m (vI vs 2) (vI vs 3) (vV vs 4) (vV vs 6) (vV vs 7) (vL vs 11)
def ST79 : LT := [(1, sumT T79o1 (L79o1 KK))]
noncomputable def b79o1 := bd c79 1
theorem q79o1 : Qp L79o1 C79 ST79 b79o1 2 T79o1 := fun m vs K => by kernel_rfl
theorem o79o1 : SumOk C79 KK (sumT T79o1 (L79o1 KK)) (.loop b79o1) := loop_ok T79o1 L79o1 (sums_of (t := ST79) ⟨fun _ _ h => absurd h (by decide), trivial⟩) (fun _ _ => rfl) q79o1
theorem r79 : Rp tw79 C79 ST79 Try.f79 (sig 79) c79 A79 := fun vs => by kernel_rfl
theorem ok79 : OkS sig (Gd G dep (dep 79)) 79 th79 := fun xs q h => body_ok Try.func79 (c := c79) rfl A79 tw79 (sums_of (C := C79) (t := ST79) ⟨sum_in (c' := .loop b79o1) (by kernel_rfl) (o79o1), trivial⟩) r79 (by rw [← tpw79]; exact opt_gOf h)
noncomputable def C59 := mkC 59
noncomputable def c59 := Try.f59.body.getD .skip
def ST59 : LT := []
theorem r59 : Rp tw59 C59 ST59 Try.f59 (sig 59) c59 A59 := fun vs => by kernel_rfl
theorem ok59 : OkS sig (Gd G dep (dep 59)) 59 th59 := fun xs q h => body_ok Try.func59 (c := c59) rfl A59 tw59 (sums_of (C := C59) (t := ST59) trivial) r59 (by rw [← tpw59]; exact opt_gOf h)
noncomputable def C70 := mkC 70
noncomputable def c70 := Try.f70.body.getD .skip
def ST70 : LT := []
theorem r70 : Rp tw70 C70 ST70 Try.f70 (sig 70) c70 A70 := fun vs => by kernel_rfl
theorem ok70 : OkS sig (Gd G dep (dep 70)) 70 th70 := fun xs q h => body_ok Try.func70 (c := c70) rfl A70 tw70 (sums_of (C := C70) (t := ST70) trivial) r70 (by rw [← tpw70]; exact opt_gOf h)
noncomputable def C80 := mkC 80
noncomputable def c80 := Try.f80.body.getD .skip
def ST80 : LT := []
theorem r80 : Rp tw80 C80 ST80 Try.f80 (sig 80) c80 A80 := fun vs => by kernel_rfl
theorem ok80 : OkS sig (Gd G dep (dep 80)) 80 th80 := fun xs q h => body_ok Try.func80 (c := c80) rfl A80 tw80 (sums_of (C := C80) (t := ST80) trivial) r80 (by rw [← tpw80]; exact opt_gOf h)
noncomputable def C58 := mkC 58
noncomputable def c58 := Try.f58.body.getD .skip
def T58o1 : TSt := ⟨[dL, dB, dI, .undef, dB, .any, .any], []⟩
def X58o1e1 : TSt := ⟨[dL, dB, dI, .ptr 256 0, dB, dB, dB], [(256, .box [dI, dI, dI, dI, dI])]⟩
def X58o1e2 : TSt := ⟨[dL, dB, dI, .undef, dB, dB, .any], []⟩
def L58o1 (m : Nat) (vs : List Vr) (K : KT) : Rs := la58o1 tu57 (vL vs 0) (vB vs 1) (vB vs 3) (fun n18 b19 b20 n21 n22 n23 n24 n25 => K .ret (fillS X58o1e1 [jL vs 0, .b (false), .i (n18), jB vs 3, .b (b19), .b (b20), .i (n21), .i (n22), .i (n23), .i (n24), .i (n25)])) (fun n26 b27 v28 => K (.exit 0) (fillS X58o1e2 [jL vs 0, jB vs 1, .i (n26), jB vs 3, .b (b27), .v (v28)])) m (vI vs 2) (vV vs 4) (vV vs 5)
def ST58 : LT := [(1, sumT T58o1 (L58o1 KK))]
noncomputable def b58o1 := bd c58 1
theorem q58o1 : Qp L58o1 C58 ST58 b58o1 2 T58o1 := fun m vs K => by kernel_rfl
theorem o58o1 : SumOk C58 KK (sumT T58o1 (L58o1 KK)) (.loop b58o1) := loop_ok T58o1 L58o1 (sums_of (t := ST58) ⟨fun _ _ h => absurd h (by decide), trivial⟩) (fun _ _ => rfl) q58o1
theorem r58 : Rp tw58 C58 ST58 Try.f58 (sig 58) c58 A58 := fun vs => by kernel_rfl
theorem ok58 : OkS sig (Gd G dep (dep 58)) 58 th58 := fun xs q h => body_ok Try.func58 (c := c58) rfl A58 tw58 (sums_of (C := C58) (t := ST58) ⟨sum_in (c' := .loop b58o1) (by kernel_rfl) (o58o1), trivial⟩) r58 (by rw [← tpw58]; exact opt_gOf h)
noncomputable def C23 := mkC 23
noncomputable def c23 := Try.f23.body.getD .skip
def T23o1 : TSt := ⟨[.agg [dI, dL, dI, dL, dL], .ptr 64 0, dB, dI, .undef, dB, .any, .any], [(64, .box [dI, dL, dI, dL, dL])]⟩
def X23o1e1 : TSt := ⟨[.agg [dI, dL, dI, dL, dL], .ptr 64 0, dB, dI, .ptr 256 0, dB, dB, dB], [(64, .box [dI, dL, dI, dL, dL]), (256, .box [dI, dI, dI, dI, dS])]⟩
def X23o1e2 : TSt := ⟨[.agg [dI, dL, dI, dL, dL], .ptr 64 0, dB, dI, .undef, dB, dB, .any], [(64, .box [dI, dL, dI, dL, dL])]⟩
def L23o1 (m : Nat) (vs : List Vr) (K : KT) : Rs := la23o1 tu56 tu57 tu58 tu59 (vI vs 0) (vL vs 1) (vI vs 2) (vL vs 3) (vL vs 4) (vB vs 5) (vB vs 7) (vI vs 10) (vL vs 11) (vI vs 12) (vL vs 13) (vL vs 14) (fun n49 b50 b51 n52 n53 n54 n55 s56 => K .ret (fillS X23o1e1 [jI vs 0, jL vs 1, jI vs 2, jL vs 3, jL vs 4, .b (false), .i (n49), jB vs 7, .b (b50), .b (b51), jI vs 10, jL vs 11, jI vs 12, jL vs 13, jL vs 14, .i (n52), .i (n53), .i (n54), .i (n55), .s (s56)])) (fun n57 b58 v59 => K (.exit 0) (fillS X23o1e2 [jI vs 0, jL vs 1, jI vs 2, jL vs 3, jL vs 4, jB vs 5, .i (n57), jB vs 7, .b (b58), .v (v59), jI vs 10, jL vs 11, jI vs 12, jL vs 13, jL vs 14])) m (vI vs 6) (vV vs 8) (vV vs 9)
def ST23 : LT := [(1, sumT T23o1 (L23o1 KK))]
noncomputable def b23o1 := bd c23 1
theorem q23o1 : Qp L23o1 C23 ST23 b23o1 2 T23o1 := fun m vs K => by kernel_rfl
theorem o23o1 : SumOk C23 KK (sumT T23o1 (L23o1 KK)) (.loop b23o1) := loop_ok T23o1 L23o1 (sums_of (t := ST23) ⟨fun _ _ h => absurd h (by decide), trivial⟩) (fun _ _ => rfl) q23o1
theorem r23 : Rp tw23 C23 ST23 Try.f23 (sig 23) c23 A23 := fun vs => by kernel_rfl
theorem ok23 : OkS sig (Gd G dep (dep 23)) 23 th23 := fun xs q h => body_ok Try.func23 (c := c23) rfl A23 tw23 (sums_of (C := C23) (t := ST23) ⟨sum_in (c' := .loop b23o1) (by kernel_rfl) (o23o1), trivial⟩) r23 (by rw [← tpw23]; exact opt_gOf h)
noncomputable def C30 := mkC 30
noncomputable def c30 := Try.f30.body.getD .skip
def T30o3 : TSt := ⟨[.agg [dI, dL, dI, dL, dL], .ptr 64 0, dS, dS, dI, .undef, dI, .undef, dB, dB, .any], [(64, .box [dI, dL, dI, dL, dL])]⟩
def X30o3e1 : TSt := ⟨[.agg [dI, dL, dI, dL, dL], .ptr 64 0, dS, dS, dI, .undef, dI, .undef, dB, dB, dB], [(64, .box [dI, dL, dI, dL, dL])]⟩
def L30o3 (m : Nat) (vs : List Vr) (K : KT) : Rs := la30o3 tu23 tu67 tu68 tu69 tu70 (vI vs 0) (vL vs 1) (vI vs 2) (vL vs 3) (vL vs 4) (vS vs 5) (vI vs 7) (vB vs 9) (vB vs 10) (vI vs 12) (vL vs 13) (vI vs 14) (vL vs 15) (vL vs 16) (fun s106 n107 b108 => K (.exit 2) (fillS X30o3e1 [jI vs 0, jL vs 1, jI vs 2, jL vs 3, jL vs 4, jS vs 5, .s (s106), jI vs 7, .i (n107), jB vs 9, jB vs 10, .b (b108), jI vs 12, jL vs 13, jI vs 14, jL vs 15, jL vs 16])) m (vS vs 6) (vI vs 8) (vV vs 11)
def T30o1 : TSt := ⟨[.agg [dI, dL, dI, dL, dL], .ptr 64 0, dS, dS, dI, .undef, .undef, .undef, dB, .any, .undef], [(64, .box [dI, dL, dI, dL, dL])]⟩
def X30o1e1 : TSt := ⟨[.agg [dI, dL, dI, dL, dL], .ptr 64 0, dS, dS, dI, .undef, .undef, .undef, dB, dB, .undef], [(64, .box [dI, dL, dI, dL, dL])]⟩
def L30o1 (m : Nat) (vs : List Vr) (K : KT) : Rs := la30o1 tu23 tu67 tu68 tu69 tu70 (vI vs 0) (vL vs 1) (vI vs 2) (vL vs 3) (vL vs 4) (vS vs 5) (vB vs 8) (vI vs 10) (vL vs 11) (vI vs 12) (vL vs 13) (vL vs 14) (fun s50 n51 b52 => K (.exit 0) (fillS X30o1e1 [jI vs 0, jL vs 1, jI vs 2, jL vs 3, jL vs 4, jS vs 5, .s (s50), .i (n51), jB vs 8, .b (b52), jI vs 10, jL vs 11, jI vs 12, jL vs 13, jL vs 14])) m (vS vs 6) (vI vs 7) (vV vs 9)
def ST30 : LT := [(3, sumT T30o3 (L30o3 KK)), (1, sumT T30o1 (L30o1 KK))]
noncomputable def b30o3 := bd c30 3
noncomputable def b30o1 := bd c30 1
theorem q30o3 : Qp L30o3 C30 ST30 b30o3 4 T30o3 := fun m vs K => by kernel_rfl
theorem o30o3 : SumOk C30 KK (sumT T30o3 (L30o3 KK)) (.loop b30o3) := loop_ok T30o3 L30o3 (sums_of (t := ST30) ⟨fun _ _ h => absurd h (by decide), fun _ _ h => absurd h (by decide), trivial⟩) (fun _ _ => rfl) q30o3
theorem q30o1 : Qp L30o1 C30 ST30 b30o1 2 T30o1 := fun m vs K => by kernel_rfl
theorem o30o1 : SumOk C30 KK (sumT T30o1 (L30o1 KK)) (.loop b30o1) := loop_ok T30o1 L30o1 (sums_of (t := ST30) ⟨sum_out (by kernel_rfl), fun _ _ h => absurd h (by decide), trivial⟩) (fun _ _ => rfl) q30o1
theorem r30 : Rp tw30 C30 ST30 Try.f30 (sig 30) c30 A30 := fun vs => by kernel_rfl
theorem ok30 : OkS sig (Gd G dep (dep 30)) 30 th30 := fun xs q h => body_ok Try.func30 (c := c30) rfl A30 tw30 (sums_of (C := C30) (t := ST30) ⟨sum_in (c' := .loop b30o3) (by kernel_rfl) (o30o3), sum_in (c' := .loop b30o1) (by kernel_rfl) (o30o1), trivial⟩) r30 (by rw [← tpw30]; exact opt_gOf h)
noncomputable def C36 := mkC 36
noncomputable def c36 := Try.f36.body.getD .skip
def T36o5 : TSt := ⟨[dS, .ptr 128 0, dB, .ptr 256 0, dS, dI, .own 1920, .ptr 512 0, .ptr 640 0, dI, .undef, .any, .own 5952, dI, .undef, .any, .any, .undef, .any, dB, dB, .any, dB, .any, .any, .undef], [(128, .box [dI, .nils, dI, .nils, .nils]), (256, .box [dI, .nils, dI, .nils, .nils]), (512, .box [dI, .own 32770]), (640, .box [dI, .own 32770, dI, .own 40964, .own 40965]), (1920, .row 3 1), (5952, .row 3 1), (32770, .row 64 9), (40964, .row 90 5), (40965, .row 81 5)]⟩
def X36o5e1 : TSt := ⟨[dS, .ptr 128 0, dB, .ptr 256 0, dS, dI, .own 1920, .ptr 512 0, .ptr 640 0, dI, .undef, .any, .own 5952, dI, .own 7360, dI, dS, .ptr 1216 0, dB, dB, dB, .any, dB, dB, dB, .undef], [(128, .box [dI, .nils, dI, .nils, .nils]), (256, .box [dI, .nils, dI, .nils, .nils]), (512, .box [dI, .own 32770]), (640, .box [dI, .own 32770, dI, .own 40964, .own 40965]), (1216, .box [dI, dS]), (1920, .row 3 1), (5952, .row 3 1), (7360, .row 3 1), (32770, .row 64 9), (40964, .row 90 5), (40965, .row 81 5)]⟩
def X36o5e2 : TSt := ⟨[dS, .ptr 128 0, dB, .ptr 256 0, dS, dI, .own 1920, .ptr 512 0, .ptr 640 0, dI, .undef, .any, .own 5952, dI, .undef, .any, .any, .undef, .any, dB, dB, .any, dB, dB, .any, .undef], [(128, .box [dI, .nils, dI, .nils, .nils]), (256, .box [dI, .nils, dI, .nils, .nils]), (512, .box [dI, .own 32770]), (640, .box [dI, .own 32770, dI, .own 40964, .own 40965]), (1920, .row 3 1), (5952, .row 3 1), (32770, .row 64 9), (40964, .row 90 5), (40965, .row 81 5)]⟩
def L36o5 (m : Nat) (vs : List Vr) (K : KT) : Rs := la36o5 tu30 tu77 tu78 tu79 tu80 (vS vs 0) (vB vs 1) (vS vs 2) (vI vs 4) (vB vs 10) (vB vs 11) (vB vs 13) (vI vs 16) (vI vs 17) (vI vs 18) (vI vs 19) (vI vs 20) (vI vs 21) (vI vs 22) (vL vs 23) (vL vs 24) (vL vs 25) (vL vs 26) (fun n161 v162 n163 n164 s165 b166 v167 b168 b169 n170 s171 l172 l173 => K .ret (fillS X36o5e1 [jS vs 0, .b (false), jS vs 2, .i (n161), jI vs 4, .v (v162), .i (n163), .i (n164), .s (s165), .b (b166), jB vs 10, jB vs 11, .v (v167), jB vs 13, .b (b168), .b (b169), jI vs 18, jI vs 19, jI vs 18, jI vs 19, jI vs 20, jI vs 21, jI vs 22, .i (n170), .s (s171), jL vs 23, jL vs 24, .l (l172), jL vs 25, jL vs 26, .l (l173)])) (fun n174 v175 n176 v177 v178 v179 v180 b181 v182 l183 => K (.exit 2) (fillS X36o5e2 [jS vs 0, jB vs 1, jS vs 2, .i (n174), jI vs 4, .v (v175), .i (n176), .v (v177), .v (v178), .v (v179), jB vs 10, jB vs 11, .v (v180), jB vs 13, .b (b181), .v (v182), jI vs 16, jI vs 17, jI vs 18, jI vs 19, jI vs 20, jI vs 21, jI vs 22, jL vs 23, jL vs 24, jL vs 25, jL vs 26, .l (l183)])) m (vI vs 3) (vV vs 5) (vI vs 6) (vV vs 7) (vV vs 8) (vV vs 9) (vV vs 12) (vV vs 14) (vV vs 15) (vL vs 27)
def T36o1 : TSt := ⟨[dS, .ptr 128 0, dB, .ptr 256 0, dS, dI, .own 1920, .ptr 512 0, .ptr 640 0, dI, .undef, .any, .undef, .undef, .undef, .undef, .undef, .undef, .undef, dB, .any, .any, .undef, .undef, .undef, .undef], [(128, .box [dI, .nils, dI, .nils, .nils]), (256, .box [dI, .nils, dI, .nils, .nils]), (512, .box [dI, .own 32770]), (640, .box [dI, .own 32770, dI, .own 40964, .nils]), (1920, .row 3 1), (32770, .row 64 9), (40964, .row 90 5)]⟩
def X36o1e1 : TSt := ⟨[dS, .ptr 128 0, dB, .ptr 256 0, dS, dI, .own 1920, .ptr 512 0, .ptr 640 0, dI, .own 3968, dI, .undef, .undef, .undef, .undef, .undef, .undef, .undef, dB, dB, dB, .undef, .undef, .undef, .undef], [(128, .box [dI, .nils, dI, .nils, .nils]), (256, .box [dI, .nils, dI, .nils, .nils]), (512, .box [dI, .own 32770]), (640, .box [dI, .own 32770, dI, .own 40964, .nils]), (1920, .row 3 1), (3968, .row 3 1), (32770, .row 64 9), (40964, .row 90 5)]⟩
def X36o1e2 : TSt := ⟨[dS, .ptr 128 0, dB, .ptr 256 0, dS, dI, .own 1920, .ptr 512 0, .ptr 640 0, dI, .undef, .any, .undef, .undef, .undef, .undef, .undef, .undef, .undef, dB, dB, .any, .undef, .undef, .undef, .undef], [(128, .box [dI, .nils, dI, .nils, .nils]), (256, .box [dI, .nils, dI, .nils, .nils]), (512, .box [dI, .own 32770]), (640, .box [dI, .own 32770, dI, .own 40964, .nils]), (1920, .row 3 1), (32770, .row 64 9), (40964, .row 90 5)]⟩
def L36o1 (m : Nat) (vs : List Vr) (K : KT) : Rs := la36o1 tu30 tu77 tu78 tu79 tu80 (vS vs 0) (vB vs 1) (vS vs 2) (vB vs 6) (vI vs 9) (vI vs 10) (vI vs 11) (vI vs 12) (vI vs 13) (vI vs 14) (vI vs 15) (vL vs 16) (vL vs 17) (fun n56 n57 n58 b59 b60 l61 l62 => K .ret (fillS X36o1e1 [jS vs 0, .b (false), jS vs 2, .i (n56), .i (n57), .i (n58), jB vs 6, .b (b59), .b (b60), jI vs 11, jI vs 12, jI vs 11, jI vs 12, jI vs 13, jI vs 14, jI vs 15, jL vs 16, .l (l61), jL vs 17, .l (l62)])) (fun n63 n64 v65 b66 v67 l68 => K (.exit 0) (fillS X36o1e2 [jS vs 0, jB vs 1, jS vs 2, .i (n63), .i (n64), .v (v65), jB vs 6, .b (b66), .v (v67), jI vs 9, jI vs 10, jI vs 11, jI vs 12, jI vs 13, jI vs 14, jI vs 15, jL vs 16, jL vs 17, .l (l68)])) m (vI vs 3) (vI vs 4) (vV vs 5) (vV vs 7) (vV vs 8) (vL vs 18)
def ST36 : LT := [(5, sumT T36o5 (L36o5 KK)), (1, sumT T36o1 (L36o1 KK))]
noncomputable def b36o5 := bd c36 5
noncomputable def b36o1 := bd c36 1
theorem q36o5 : Qp L36o5 C36 ST36 b36o5 6 T36o5 := fun m vs K => by kernel_rfl
theorem o36o5 : SumOk C36 KK (sumT T36o5 (L36o5 KK)) (.loop b36o5) := loop_ok T36o5 L36o5 (sums_of (t := ST36) ⟨fun _ _ h => absurd h (by decide), fun _ _ h => absurd h (by decide), trivial⟩) (fun _ _ => rfl) q36o5
theorem q36o1 : Qp L36o1 C36 ST36 b36o1 2 T36o1 := fun m vs K => by kernel_rfl
theorem o36o1 : SumOk C36 KK (sumT T36o1 (L36o1 KK)) (.loop b36o1) := loop_ok T36o1 L36o1 (sums_of (t := ST36) ⟨sum_out (by kernel_rfl), fun _ _ h => absurd h (by decide), trivial⟩) (fun _ _ => rfl) q36o1
theorem r36 : Rp tw36 C36 ST36 Try.f36 (sig 36) c36 A36 := fun vs => by kernel_rfl
theorem ok36 : OkS sig (Gd G dep (dep 36)) 36 th36 := fun xs q h => body_ok Try.func36 (c := c36) rfl A36 tw36 (sums_of (C := C36) (t := ST36) ⟨sum_in (c' := .loop b36o5) (by kernel_rfl) (o36o5), sum_in (c' := .loop b36o1) (by kernel_rfl) (o36o1), trivial⟩) r36 (by rw [← tpw36]; exact opt_gOf h)
noncomputable def C136 := mkC 136
noncomputable def c136 := Try.f136.body.getD .skip
def T136o0 : TSt := ⟨[dS, dI, dI, dI, dI, .any, .any, .any, .undef], []⟩
def X136o0e1 : TSt := ⟨[dS, dI, dI, dI, dI, dI, dB, dB, dB], []⟩
def X136o0e2 : TSt := ⟨[dS, dI, dI, dI, dI, .any, dB, .any, .undef], []⟩
def L136o0 (m : Nat) (vs : List Vr) (K : KT) : Rs := l136o0 (vS vs 0) (vI vs 1) (vI vs 2) (fun n23 n24 n25 n26 n27 b28 b29 b30 => K .ret (fillS X136o0e1 [jS vs 0, .i (n23), .i (n24), .i (n25), .i (n26), .i (n27), .b (b28), .b (b29), .b (b30)])) (fun n31 n32 v33 b34 v35 => K (.exit 0) (fillS X136o0e2 [jS vs 0, jI vs 1, jI vs 2, .i (n31), .i (n32), .v (v33), .b (b34), .v (v35)])) m (vI vs 3) (vI vs 4) (vV vs 5) (vV vs 6) (vV vs 7)
def ST136 : LT := [(0, sumT T136o0 (L136o0 KK))]
noncomputable def b136o0 := bd c136 0
theorem q136o0 : Qp L136o0 C136 ST136 b136o0 1 T136o0 := fun m vs K => by kernel_rfl
theorem o136o0 : SumOk C136 KK (sumT T136o0 (L136o0 KK)) (.loop b136o0) := loop_ok T136o0 L136o0 (sums_of (t := ST136) ⟨fun _ _ h => absurd h (by decide), trivial⟩) (fun _ _ => rfl) q136o0
theorem r136 : Rp tw136 C136 ST136 Try.f136 (sig 136) c136 A136 := fun vs => by kernel_rfl
theorem ok136 : OkS sig (Gd G dep (dep 136)) 136 th136 := fun xs q h => body_ok Try.func136 (c := c136) rfl A136 tw136 (sums_of (C := C136) (t := ST136) ⟨sum_in (c' := .loop b136o0) (by kernel_rfl) (o136o0), trivial⟩) r136 (by rw [← tpw136]; exact opt_gOf h)
noncomputable def C116 := mkC 116
noncomputable def c116 := Try.f116.body.getD .skip
def ST116 : LT := []
theorem r116 : Rp tw116 C116 ST116 Try.f116 (sig 116) c116 A116 := fun vs => by kernel_rfl
theorem ok116 : OkS sig (Gd G dep (dep 116)) 116 th116 := fun xs q h => body_ok Try.func116 (c := c116) rfl A116 tw116 (sums_of (C := C116) (t := ST116) trivial) r116 (by rw [← tpw116]; exact opt_gOf h)
noncomputable def C119 := mkC 119
noncomputable def c119 := Try.f119.body.getD .skip
def ST119 : LT := []
theorem r119 : Rp tw119 C119 ST119 Try.f119 (sig 119) c119 A119 := fun vs => by kernel_rfl
theorem ok119 : OkS sig (Gd G dep (dep 119)) 119 th119 := fun xs q h => body_ok Try.func119 (c := c119) rfl A119 tw119 (sums_of (C := C119) (t := ST119) trivial) r119 (by rw [← tpw119]; exact opt_gOf h)
noncomputable def C82 := mkC 82
noncomputable def c82 := Try.f82.body.getD .skip
def ST82 : LT := []
theorem r82 : Rp tw82 C82 ST82 Try.f82 (sig 82) c82 A82 := fun vs => by kernel_rfl
theorem ok82 : OkS sig (Gd G dep (dep 82)) 82 th82 := fun xs q h => body_ok Try.func82 (c := c82) rfl A82 tw82 (sums_of (C := C82) (t := ST82) trivial) r82 (by rw [← tpw82]; exact opt_gOf h)
noncomputable def C117 := mkC 117
noncomputable def c117 := Try.f117.body.getD .skip
def ST117 : LT := []
theorem r117 : Rp tw117 C117 ST117 Try.f117 (sig 117) c117 A117 := fun vs => by kernel_rfl
theorem ok117 : OkS sig (Gd G dep (dep 117)) 117 th117 := fun xs q h => body_ok Try.func117 (c := c117) rfl A117 tw117 (sums_of (C := C117) (t := ST117) trivial) r117 (by rw [← tpw117]; exact opt_gOf h)
noncomputable def C115 := mkC 115
noncomputable def c115 := Try.f115.body.getD .skip
def T115o2 : TSt := ⟨[.ptr 0 0, .ptr 128 0, .ptr 192 0, .ptr 256 0, .undef, dI, dI, dB, dI, dI, .any], [(0, .box [dS, dB]), (128, .box [dI, .nils]), (192, .box [dI, .own 12290]), (256, .box [dI, dI, dI, dI, dI, dS, .own 16391, dI, dI]), (12290, .row 64 9), (16391, .row 129 2)]⟩
def X115o2e1 : TSt := ⟨[.ptr 0 0, .ptr 128 0, .ptr 192 0, .ptr 256 0, .undef, dI, dI, dB, dI, dI, dB], [(0, .box [dS, dB]), (128, .box [dI, .nils]), (192, .box [dI, .own 12290]), (256, .box [dI, dI, dI, dI, dI, dS, .own 16391, dI, dI]), (12290, .row 64 9), (16391, .row 129 2)]⟩
def L115o2 (m : Nat) (vs : List Vr) (K : KT) : Rs := la115o2 tu82 tu116 tu117 (vI vs 0) (vI vs 1) (vB vs 2) (vI vs 3) (vI vs 8) (vI vs 9) (vI vs 10) (vI vs 11) (vI vs 12) (vI vs 13) (vI vs 14) (vS vs 15) (vI vs 16) (vI vs 17) (vL vs 18) (fun n150 b151 s152 b153 l154 => K (.exit 2) (fillS X115o2e1 [jI vs 0, jI vs 1, jB vs 2, jI vs 3, .i (n150), .b (b151), .s (s152), .b (b153), jI vs 8, jI vs 9, jI vs 10, jI vs 11, jI vs 12, jI vs 13, jI vs 14, jS vs 15, jI vs 16, jI vs 17, jL vs 18, .l (l154)])) m (vI vs 4) (vV vs 5) (vS vs 6) (vB vs 7) (vL vs 19)
def T115o0 : TSt := ⟨[.ptr 0 0, .ptr 128 0, .ptr 192 0, .undef, .undef, dI, dI, .any, .any, .any, .any], [(0, .box [dS, dB]), (128, .box [dI, .nils]), (192, .box [dI, .own 12290]), (12290, .row 64 9)]⟩
def X115o0e1 : TSt := ⟨[.ptr 0 0, .ptr 128 0, .ptr 192 0, .undef, .undef, dI, dI, dB, .any, .any, .any], [(0, .box [dS, dB]), (128, .box [dI, .nils]), (192, .box [dI, .own 12290]), (12290, .row 64 9)]⟩
def L115o0 (m : Nat) (vs : List Vr) (K : KT) : Rs := la115o0 tu82 tu116 tu117 (vI vs 0) (vI vs 8) (vI vs 9) (fun n171 b172 v173 v174 v175 s176 b177 l178 => K (.exit 0) (fillS X115o0e1 [jI vs 0, .i (n171), .b (b172), .v (v173), .v (v174), .v (v175), .s (s176), .b (b177), jI vs 8, jI vs 9, .l (l178)])) m (vI vs 1) (vV vs 2) (vV vs 3) (vV vs 4) (vV vs 5) (vS vs 6) (vB vs 7) (vL vs 10)
def ST115 : LT := [(2, sumT T115o2 (L115o2 KK)), (0, sumT T115o0 (L115o0 KK))]
noncomputable def b115o2 := bd c115 2
noncomputable def b115o0 := bd c115 0
theorem q115o2 : Qp L115o2 C115 ST115 b115o2 3 T115o2 := fun m vs K => by kernel_rfl
theorem o115o2 : SumOk C115 KK (sumT T115o2 (L115o2 KK)) (.loop b115o2) := loop_ok T115o2 L115o2 (sums_of (t := ST115) ⟨fun _ _ h => absurd h (by decide), fun _ _ h => absurd h (by decide), trivial⟩) (fun _ _ => rfl) q115o2
theorem q115o0 : Qp L115o0 C115 ST115 b115o0 1 T115o0 := fun m vs K => by kernel_rfl
theorem o115o0 : SumOk C115 KK (sumT T115o0 (L115o0 KK)) (.loop b115o0) := loop_ok T115o0 L115o0 (sums_of (t := ST115) ⟨sum_in (c' := .loop b115o2) (by kernel_rfl) (o115o2), fun _ _ h => absurd h (by decide), trivial⟩) (fun _ _ => rfl) q115o0
theorem r115 : Rp tw115 C115 ST115 Try.f115 (sig 115) c115 A115 := fun vs => by kernel_rfl
theorem ok115 : OkS sig (Gd G dep (dep 115)) 115 th115 := fun xs q h => body_ok Try.func115 (c := c115) rfl A115 tw115 (sums_of (C := C115) (t := ST115) ⟨sum_in (c' := .loop b115o2) (by kernel_rfl) (o115o2), sum_in (c' := .loop b115o0) (by kernel_rfl) (o115o0), trivial⟩) r115 (by rw [← tpw115]; exact opt_gOf h)
noncomputable def C63 := mkC 63
noncomputable def c63 := Try.f63.body.getD .skip
def ST63 : LT := []
theorem r63 : Rp tw63 C63 ST63 Try.f63 (sig 63) c63 A63 := fun vs => by kernel_rfl
theorem ok63 : OkS sig (Gd G dep (dep 63)) 63 th63 := fun xs q h => body_ok Try.func63 (c := c63) rfl A63 tw63 (sums_of (C := C63) (t := ST63) trivial) r63 (by rw [← tpw63]; exact opt_gOf h)
noncomputable def C64 := mkC 64
noncomputable def c64 := Try.f64.body.getD .skip
def ST64 : LT := []
theorem r64 : Rp tw64 C64 ST64 Try.f64 (sig 64) c64 A64 := fun vs => by kernel_rfl
theorem ok64 : OkS sig (Gd G dep (dep 64)) 64 th64 := fun xs q h => body_ok Try.func64 (c := c64) rfl A64 tw64 (sums_of (C := C64) (t := ST64) trivial) r64 (by rw [← tpw64]; exact opt_gOf h)
noncomputable def C118 := mkC 118
noncomputable def c118 := Try.f118.body.getD .skip
def ST118 : LT := []
theorem r118 : Rp tw118 C118 ST118 Try.f118 (sig 118) c118 A118 := fun vs => by kernel_rfl
theorem ok118 : OkS sig (Gd G dep (dep 118)) 118 th118 := fun xs q h => body_ok Try.func118 (c := c118) rfl A118 tw118 (sums_of (C := C118) (t := ST118) trivial) r118 (by rw [← tpw118]; exact opt_gOf h)
noncomputable def C81 := mkC 81
noncomputable def c81 := Try.f81.body.getD .skip
def T81o2 : TSt := ⟨[.ptr 0 0, .ptr 128 0, .ptr 192 0, .ptr 832 0, .undef, .undef, .undef, .any, dI, dI, dB, dI, dI, .any], [(0, .box [dS, dB]), (128, .box [dI, .nils, dI, .nils, .nils]), (192, .box [dI, .own 12290, dI, .own 12292, .own 12293]), (832, .box [dS, dB]), (12290, .row 64 9), (12292, .row 90 5), (12293, .row 81 5)]⟩
def X81o2e1 : TSt := ⟨[.ptr 0 0, .ptr 128 0, .ptr 192 0, .ptr 832 0, .undef, .undef, .undef, .any, dI, dI, dB, dI, dI, dB], [(0, .box [dS, dB]), (128, .box [dI, .nils, dI, .nils, .nils]), (192, .box [dI, .own 12290, dI, .own 12292, .own 12293]), (832, .box [dS, dB]), (12290, .row 64 9), (12292, .row 90 5), (12293, .row 81 5)]⟩
def L81o2 (m : Nat) (vs : List Vr) (K : KT) : Rs := la81o2 tu82 tu115 tu116 tu117 tu118 (vI vs 1) (vI vs 2) (vB vs 3) (vI vs 4) (vI vs 9) (vI vs 10) (vI vs 11) (vI vs 12) (vS vs 13) (vB vs 14) (vL vs 15) (vL vs 16) (fun v103 n104 b105 s106 b107 l108 => K (.exit 2) (fillS X81o2e1 [.v (v103), jI vs 1, jI vs 2, jB vs 3, jI vs 4, .i (n104), .b (b105), .s (s106), .b (b107), jI vs 9, jI vs 10, jI vs 11, jI vs 12, jS vs 13, jB vs 14, jL vs 15, jL vs 16, .l (l108)])) m (vV vs 0) (vI vs 5) (vV vs 6) (vS vs 7) (vB vs 8) (vL vs 17)
def T81o0 : TSt := ⟨[.ptr 0 0, .ptr 128 0, .ptr 192 0, .ptr 832 0, .undef, .undef, .undef, .undef, dI, dI, .any, .undef, .undef, .undef], [(0, .box [dS, dB]), (128, .box [dI, .nils, dI, .nils, .nils]), (192, .box [dI, .own 12290, dI, .own 12292, .nils]), (832, .box [dS, dB]), (12290, .row 64 9), (12292, .row 90 5)]⟩
def X81o0e1 : TSt := ⟨[.ptr 0 0, .ptr 128 0, .ptr 192 0, .ptr 832 0, .undef, .undef, .undef, .undef, dI, dI, dB, .undef, .undef, .undef], [(0, .box [dS, dB]), (128, .box [dI, .nils, dI, .nils, .nils]), (192, .box [dI, .own 12290, dI, .own 12292, .nils]), (832, .box [dS, dB]), (12290, .row 64 9), (12292, .row 90 5)]⟩
def L81o0 (m : Nat) (vs : List Vr) (K : KT) : Rs := la81o0 tu82 tu115 tu116 tu117 tu118 (vI vs 0) (vI vs 5) (vI vs 6) (vI vs 7) (vI vs 8) (vS vs 9) (vB vs 10) (vL vs 11) (fun n41 b42 s43 b44 l45 => K (.exit 0) (fillS X81o0e1 [jI vs 0, .i (n41), .b (b42), .s (s43), .b (b44), jI vs 5, jI vs 6, jI vs 7, jI vs 8, jS vs 9, jB vs 10, jL vs 11, .l (l45)])) m (vI vs 1) (vV vs 2) (vS vs 3) (vB vs 4) (vL vs 12)
def ST81 : LT := [(2, sumT T81o2 (L81o2 KK)), (0, sumT T81o0 (L81o0 KK))]
noncomputable def b81o2 := bd c81 2
noncomputable def b81o0 := bd c81 0
theorem q81o2 : Qp L81o2 C81 ST81 b81o2 3 T81o2 := fun m vs K => by kernel_rfl
theorem o81o2 : SumOk C81 KK (sumT T81o2 (L81o2 KK)) (.loop b81o2) := loop_ok T81o2 L81o2 (sums_of (t := ST81) ⟨fun _ _ h => absurd h (by decide), fun _ _ h => absurd h (by decide), trivial⟩) (fun _ _ => rfl) q81o2
theorem q81o0 : Qp L81o0 C81 ST81 b81o0 1 T81o0 := fun m vs K => by kernel_rfl
theorem o81o0 : SumOk C81 KK (sumT T81o0 (L81o0 KK)) (.loop b81o0) := loop_ok T81o0 L81o0 (sums_of (t := ST81) ⟨sum_out (by kernel_rfl), fun _ _ h => absurd h (by decide), trivial⟩) (fun _ _ => rfl) q81o0
theorem r81 : Rp tw81 C81 ST81 Try.f81 (sig 81) c81 A81 := fun vs => by kernel_rfl
theorem ok81 : OkS sig (Gd G dep (dep 81)) 81 th81 := fun xs q h => body_ok Try.func81 (c := c81) rfl A81 tw81 (sums_of (C := C81) (t := ST81) ⟨sum_in (c' := .loop b81o2) (by kernel_rfl) (o81o2), sum_in (c' := .loop b81o0) (by kernel_rfl) (o81o0), trivial⟩) r81 (by rw [← tpw81]; exact opt_gOf h)
noncomputable def C65 := mkC 65
noncomputable def c65 := Try.f65.body.getD .skip
def T65o0 : TSt := ⟨[dL, dB, .any, .undef, dL, dI, dI, .any, .any], []⟩
def X65o0e1 : TSt := ⟨[dL, dB, dI, .ptr 256 0, dL, dI, dI, dB, dB], [(256, .box [dI, dI, dI, dI, dI])]⟩
def X65o0e2 : TSt := ⟨[dL, dB, .any, .undef, dL, dI, dI, dB, .any], []⟩
def L65o0 (m : Nat) (vs : List Vr) (K : KT) : Rs := la65o0 tu63 (vL vs 0) (vB vs 1) (vL vs 3) (vI vs 4) (fun n23 b24 b25 n26 n27 n28 n29 n30 => K .ret (fillS X65o0e1 [jL vs 0, .b (false), .i (n23), jL vs 3, jI vs 4, .i (n23), .b (b24), .b (b25), .i (n26), .i (n27), .i (n28), .i (n29), .i (n30)])) (fun v31 n32 b33 v34 => K (.exit 0) (fillS X65o0e2 [jL vs 0, jB vs 1, .v (v31), jL vs 3, jI vs 4, .i (n32), .b (b33), .v (v34)])) m (vV vs 2) (vI vs 5) (vV vs 6) (vV vs 7)
def ST65 : LT := [(0, sumT T65o0 (L65o0 KK))]
noncomputable def b65o0 := bd c65 0
theorem q65o0 : Qp L65o0 C65 ST65 b65o0 1 T65o0 := fun m vs K => by kernel_rfl
theorem o65o0 : SumOk C65 KK (sumT T65o0 (L65o0 KK)) (.loop b65o0) := loop_ok T65o0 L65o0 (sums_of (t := ST65) ⟨fun _ _ h => absurd h (by decide), trivial⟩) (fun _ _ => rfl) q65o0
theorem r65 : Rp tw65 C65 ST65 Try.f65 (sig 65) c65 A65 := fun vs => by kernel_rfl
theorem ok65 : OkS sig (Gd G dep (dep 65)) 65 th65 := fun xs q h => body_ok Try.func65 (c := c65) rfl A65 tw65 (sums_of (C := C65) (t := ST65) ⟨sum_in (c' := .loop b65o0) (by kernel_rfl) (o65o0), trivial⟩) r65 (by rw [← tpw65]; exact opt_gOf h)
noncomputable def C141 := mkC 141
noncomputable def c141 := Try.f141.body.getD .skip
def ST141 : LT := []
theorem r141 : Rp tw141 C141 ST141 Try.f141 (sig 141) c141 A141 := fun vs => by kernel_rfl
theorem ok141 : OkS sig (Gd G dep (dep 141)) 141 th141 := fun xs q h => body_ok Try.func141 (c := c141) rfl A141 tw141 (sums_of (C := C141) (t := ST141) trivial) r141 (by rw [← tpw141]; exact opt_gOf h)
noncomputable def C130 := mkC 130
noncomputable def c130 := Try.f130.body.getD .skip
def T130o0 : TSt := ⟨[dS, dB, .any, dI, dI, .any, .any], []⟩
def X130o0e1 : TSt := ⟨[dS, dB, dI, dI, dI, dB, dB], []⟩
def X130o0e2 : TSt := ⟨[dS, dB, .any, dI, dI, dB, .any], []⟩
def L130o0 (m : Nat) (vs : List Vr) (K : KT) : Rs := la130o0 tu63 tu141 (vS vs 0) (vB vs 1) (vI vs 3) (fun n20 b21 b22 => K .ret (fillS X130o0e1 [jS vs 0, .b (false), .i (n20), jI vs 3, .i (n20), .b (b21), .b (b22)])) (fun v23 n24 b25 v26 => K (.exit 0) (fillS X130o0e2 [jS vs 0, jB vs 1, .v (v23), jI vs 3, .i (n24), .b (b25), .v (v26)])) m (vV vs 2) (vI vs 4) (vV vs 5) (vV vs 6)
def ST130 : LT := [(0, sumT T130o0 (L130o0 KK))]
noncomputable def b130o0 := bd c130 0
theorem q130o0 : Qp L130o0 C130 ST130 b130o0 1 T130o0 := fun m vs K => by kernel_rfl
theorem o130o0 : SumOk C130 KK (sumT T130o0 (L130o0 KK)) (.loop b130o0) := loop_ok T130o0 L130o0 (sums_of (t := ST130) ⟨fun _ _ h => absurd h (by decide), trivial⟩) (fun _ _ => rfl) q130o0
theorem r130 : Rp tw130 C130 ST130 Try.f130 (sig 130) c130 A130 := fun vs => by kernel_rfl
theorem ok130 : OkS sig (Gd G dep (dep 130)) 130 th130 := fun xs q h => body_ok Try.func130 (c := c130) rfl A130 tw130 (sums_of (C := C130) (t := ST130) ⟨sum_in (c' := .loop b130o0) (by kernel_rfl) (o130o0), trivial⟩) r130 (by rw [← tpw130]; exact opt_gOf h)
noncomputable def C142 := mkC 142
noncomputable def c142 := Try.f142.body.getD .skip
def T142o0 : TSt := ⟨[dS, dB, .any, dI, dI, .any, .any], []⟩
def X142o0e1 : TSt := ⟨[dS, dB, dI, dI, dI, dB, dB], []⟩
def X142o0e2 : TSt := ⟨[dS, dB, .any, dI, dI, dB, .any], []⟩
def L142o0 (m : Nat) (vs : List Vr) (K : KT) : Rs := la142o0 tu63 tu141 (vS vs 0) (vB vs 1) (vI vs 3) (fun n20 b21 b22 => K .ret (fillS X142o0e1 [jS vs 0, .b (false), .i (n20), jI vs 3, .i (n20), .b (b21), .b (b22)])) (fun v23 n24 b25 v26 => K (.exit 0) (fillS X142o0e2 [jS vs 0, jB vs 1, .v (v23), jI vs 3, .i (n24), .b (b25), .v (v26)])) m (vV vs 2) (vI vs 4) (vV vs 5) (vV vs 6)
def ST142 : LT := [(0, sumT T142o0 (L142o0 KK))]
noncomputable def b142o0 := bd c142 0
theorem q142o0 : Qp L142o0 C142 ST142 b142o0 1 T142o0 := fun m vs K => by kernel_rfl
theorem o142o0 : SumOk C142 KK (sumT T142o0 (L142o0 KK)) (.loop b142o0) := loop_ok T142o0 L142o0 (sums_of (t := ST142) ⟨fun _ _ h => absurd h (by decide), trivial⟩) (fun _ _ => rfl) q142o0
theorem r142 : Rp tw142 C142 ST142 Try.f142 (sig 142) c142 A142 := fun vs => by kernel_rfl
theorem ok142 : OkS sig (Gd G dep (dep 142)) 142 th142 := fun xs q h => body_ok Try.func142 (c := c142) rfl A142 tw142 (sums_of (C := C142) (t := ST142) ⟨sum_in (c' := .loop b142o0) (by kernel_rfl) (o142o0), trivial⟩) r142 (by rw [← tpw142]; exact opt_gOf h)
noncomputable def C132 := mkC 132
noncomputable def c132 := Try.f132.body.getD .skip
def T132o0 : TSt := ⟨[.pv [.i .i64, .l] 0, dI, .nilp, .any, dI, dI, .any, .any], []⟩
def X132o0e1 : TSt := ⟨[.pv [.i .i64, .l] 0, dI, .pv [.i .i64, .i .i64, .i .i64, .i .i64, .i .i64, .s, .l, .i .i64, .i .i64] 0, dI, dI, dI, dB, dB], []⟩
def X132o0e2 : TSt := ⟨[.pv [.i .i64, .l] 0, dI, .nilp, .any, dI, dI, dB, .any], []⟩
def L132o0 (m : Nat) (vs : List Vr) (K : KT) : Rs := l132o0 (vI vs 0) (vL vs 1) (vI vs 2) (vI vs 4) (fun n25 n26 n27 n28 n29 s30 l31 n32 n33 n34 b35 b36 => K .ret (fillS X132o0e1 [jI vs 0, jL vs 1, jI vs 2, .i (n25), .i (n26), .i (n27), .i (n28), .i (n29), .s (s30), .l (l31), .i (n32), .i (n33), .i (n34), jI vs 4, .i (n34), .b (b35), .b (b36)])) (fun v37 n38 b39 v40 => K (.exit 0) (fillS X132o0e2 [jI vs 0, jL vs 1, jI vs 2, .v (v37), jI vs 4, .i (n38), .b (b39), .v (v40)])) m (vV vs 3) (vI vs 5) (vV vs 6) (vV vs 7)
def ST132 : LT := [(0, sumT T132o0 (L132o0 KK))]
noncomputable def b132o0 := bd c132 0
theorem q132o0 : Qp L132o0 C132 ST132 b132o0 1 T132o0 := fun m vs K => by kernel_rfl
theorem o132o0 : SumOk C132 KK (sumT T132o0 (L132o0 KK)) (.loop b132o0) := loop_ok T132o0 L132o0 (sums_of (t := ST132) ⟨fun _ _ h => absurd h (by decide), trivial⟩) (fun _ _ => rfl) q132o0
theorem r132 : Rp tw132 C132 ST132 Try.f132 (sig 132) c132 A132 := fun vs => by kernel_rfl
theorem ok132 : OkS sig (Gd G dep (dep 132)) 132 th132 := fun xs q h => body_ok Try.func132 (c := c132) rfl A132 tw132 (sums_of (C := C132) (t := ST132) ⟨sum_in (c' := .loop b132o0) (by kernel_rfl) (o132o0), trivial⟩) r132 (by rw [← tpw132]; exact opt_gOf h)
noncomputable def C131 := mkC 131
noncomputable def c131 := Try.f131.body.getD .skip
def T131o0 : TSt := ⟨[.pv [.i .i64, .l] 0, .agg [dI, dI, dI, dI, dI, dS, dL, dI, dI], .ptr 192 0, dB, .any, .undef, dL, dI, dI, .any, .any], [(192, .box [dI, dI, dI, dI, dI, dS, dL, dI, dI])]⟩
def X131o0e1 : TSt := ⟨[.pv [.i .i64, .l] 0, .agg [dI, dI, dI, dI, dI, dS, dL, dI, dI], .ptr 192 0, dB, dI, .ptr 384 0, dL, dI, dI, dB, dB], [(192, .box [dI, dI, dI, dI, dI, dS, dL, dI, dI]), (384, .box [dS, dI])]⟩
def X131o0e2 : TSt := ⟨[.pv [.i .i64, .l] 0, .agg [dI, dI, dI, dI, dI, dS, dL, dI, dI], .ptr 192 0, dB, .any, .undef, dL, dI, dI, dB, .any], [(192, .box [dI, dI, dI, dI, dI, dS, dL, dI, dI])]⟩
def L131o0 (m : Nat) (vs : List Vr) (K : KT) : Rs := la131o0 tu132 tu142 (vI vs 0) (vL vs 1) (vI vs 2) (vI vs 3) (vI vs 4) (vI vs 5) (vI vs 6) (vS vs 7) (vL vs 8) (vI vs 9) (vI vs 10) (vB vs 11) (vL vs 13) (vI vs 14) (vI vs 18) (vI vs 19) (vI vs 20) (vI vs 21) (vI vs 22) (vS vs 23) (vL vs 24) (vI vs 25) (vI vs 26) (fun n90 b91 b92 s93 n94 => K .ret (fillS X131o0e1 [jI vs 0, jL vs 1, jI vs 2, jI vs 3, jI vs 4, jI vs 5, jI vs 6, jS vs 7, jL vs 8, jI vs 9, jI vs 10, .b (false), .i (n90), jL vs 13, jI vs 14, .i (n90), .b (b91), .b (b92), jI vs 18, jI vs 19, jI vs 20, jI vs 21, jI vs 22, jS vs 23, jL vs 24, jI vs 25, jI vs 26, .s (s93), .i (n94)])) (fun v95 n96 b97 v98 => K (.exit 0) (fillS X131o0e2 [jI vs 0, jL vs 1, jI vs 2, jI vs 3, jI vs 4, jI vs 5, jI vs 6, jS vs 7, jL vs 8, jI vs 9, jI vs 10, jB vs 11, .v (v95), jL vs 13, jI vs 14, .i (n96), .b (b97), .v (v98), jI vs 18, jI vs 19, jI vs 20, jI vs 21, jI vs 22, jS vs 23, jL vs 24, jI vs 25, jI vs 26])) m (vV vs 12) (vI vs 15) (vV vs 16) (vV vs 17)
def ST131 : LT := [(0, sumT T131o0 (L131o0 KK))]
noncomputable def b131o0 := bd c131 0
theorem q131o0 : Qp L131o0 C131 ST131 b131o0 1 T131o0 := fun m vs K => by kernel_rfl
theorem o131o0 : SumOk C131 KK (sumT T131o0 (L131o0 KK)) (.loop b131o0) := loop_ok T131o0 L131o0 (sums_of (t := ST131) ⟨fun _ _ h => absurd h (by decide), trivial⟩) (fun _ _ => rfl) q131o0
theorem r131 : Rp tw131 C131 ST131 Try.f131 (sig 131) c131 A131 := fun vs => by kernel_rfl
theorem ok131 : OkS sig (Gd G dep (dep 131)) 131 th131 := fun xs q h => body_ok Try.func131 (c := c131) rfl A131 tw131 (sums_of (C := C131) (t := ST131) ⟨sum_in (c' := .loop b131o0) (by kernel_rfl) (o131o0), trivial⟩) r131 (by rw [← tpw131]; exact opt_gOf h)
noncomputable def C99 := mkC 99
noncomputable def c99 := Try.f99.body.getD .skip
def ST99 : LT := []
theorem r99 : Rp tw99 C99 ST99 Try.f99 (sig 99) c99 A99 := fun vs => by kernel_rfl
theorem ok99 : OkS sig (Gd G dep (dep 99)) 99 th99 := fun xs q h => body_ok Try.func99 (c := c99) rfl A99 tw99 (sums_of (C := C99) (t := ST99) trivial) r99 (by rw [← tpw99]; exact opt_gOf h)
noncomputable def C133 := mkC 133
noncomputable def c133 := Try.f133.body.getD .skip
def T133o0 : TSt := ⟨[dL, dI, dI, .any, dI, dI, .any, .any], []⟩
def X133o0e1 : TSt := ⟨[dL, dI, dI, dI, dI, dI, dB, dB], []⟩
def X133o0e2 : TSt := ⟨[dL, dI, dI, .any, dI, dI, dB, .any], []⟩
def L133o0 (m : Nat) (vs : List Vr) (K : KT) : Rs := l133o0 (vL vs 0) (vI vs 1) (vI vs 2) (vI vs 4) (fun n24 b25 b26 => K .ret (fillS X133o0e1 [jL vs 0, jI vs 1, .i (n24), .i (n24), jI vs 4, .i (n24), .b (b25), .b (b26)])) (fun v27 n28 b29 v30 => K (.exit 0) (fillS X133o0e2 [jL vs 0, jI vs 1, jI vs 2, .v (v27), jI vs 4, .i (n28), .b (b29), .v (v30)])) m (vV vs 3) (vI vs 5) (vV vs 6) (vV vs 7)
def ST133 : LT := [(0, sumT T133o0 (L133o0 KK))]
noncomputable def b133o0 := bd c133 0
theorem q133o0 : Qp L133o0 C133 ST133 b133o0 1 T133o0 := fun m vs K => by kernel_rfl
theorem o133o0 : SumOk C133 KK (sumT T133o0 (L133o0 KK)) (.loop b133o0) := loop_ok T133o0 L133o0 (sums_of (t := ST133) ⟨fun _ _ h => absurd h (by decide), trivial⟩) (fun _ _ => rfl) q133o0
theorem r133 : Rp tw133 C133 ST133 Try.f133 (sig 133) c133 A133 := fun vs => by kernel_rfl
theorem ok133 : OkS sig (Gd G dep (dep 133)) 133 th133 := fun xs q h => body_ok Try.func133 (c := c133) rfl A133 tw133 (sums_of (C := C133) (t := ST133) ⟨sum_in (c' := .loop b133o0) (by kernel_rfl) (o133o0), trivial⟩) r133 (by rw [← tpw133]; exact opt_gOf h)
noncomputable def C101 := mkC 101
noncomputable def c101 := Try.f101.body.getD .skip
def ST101 : LT := []
theorem r101 : Rp tw101 C101 ST101 Try.f101 (sig 101) c101 A101 := fun vs => by kernel_rfl
theorem ok101 : OkS sig (Gd G dep (dep 101)) 101 th101 := fun xs q h => body_ok Try.func101 (c := c101) rfl A101 tw101 (sums_of (C := C101) (t := ST101) trivial) r101 (by rw [← tpw101]; exact opt_gOf h)
noncomputable def C100 := mkC 100
noncomputable def c100 := Try.f100.body.getD .skip
def T100o3 : TSt := ⟨[.pv [.i .i64, .l] 0, dI, .nils, .own 704, .own 832, dI, .any, .undef, dB, dB, dL, dI, dI, .any, .any], [(704, .row 3 1), (832, .row 3 1)]⟩
def X100o3e1 : TSt := ⟨[.pv [.i .i64, .l] 0, dI, .nils, .own 704, .own 832, dI, .any, .undef, dB, dB, dL, dI, dI, dB, .any], [(704, .row 3 1), (832, .row 3 1)]⟩
def L100o3 (m : Nat) (vs : List Vr) (K : KT) : Rs := la100o3 tu101 tu132 (vI vs 0) (vL vs 1) (vI vs 2) (vI vs 3) (vB vs 5) (vB vs 6) (vL vs 7) (vI vs 8) (fun v130 n131 b132 v133 l134 l135 => K (.exit 2) (fillS X100o3e1 [jI vs 0, jL vs 1, jI vs 2, jI vs 3, .v (v130), jB vs 5, jB vs 6, jL vs 7, jI vs 8, .i (n131), .b (b132), .v (v133), .l (l134), .l (l135)])) m (vV vs 4) (vI vs 9) (vV vs 10) (vV vs 11) (vL vs 12) (vL vs 13)
def T100o0 : TSt := ⟨[.pv [.i .i64, .l] 0, dI, .nils, .own 704, .own 832, dI, .any, .undef, .any, .any, .any, .any, .any, .any, .any], [(704, .row 3 1), (832, .row 3 1)]⟩
def X100o0e1 : TSt := ⟨[.pv [.i .i64, .l] 0, dI, .nils, .own 704, .own 832, dI, .any, .undef, dB, .any, .any, .any, .any, .any, .any], [(704, .row 3 1), (832, .row 3 1)]⟩
def L100o0 (m : Nat) (vs : List Vr) (K : KT) : Rs := la100o0 tu101 tu132 (vI vs 0) (vL vs 1) (vI vs 2) (fun n170 v171 b172 v173 v174 v175 v176 v177 v178 l179 l180 => K (.exit 0) (fillS X100o0e1 [jI vs 0, jL vs 1, jI vs 2, .i (n170), .v (v171), .b (b172), .v (v173), .v (v174), .v (v175), .v (v176), .v (v177), .v (v178), .l (l179), .l (l180)])) m (vI vs 3) (vV vs 4) (vV vs 5) (vV vs 6) (vV vs 7) (vV vs 8) (vV vs 9) (vV vs 10) (vV vs 11) (vL vs 12) (vL vs 13)
def ST100 : LT := [(3, sumT T100o3 (L100o3 KK)), (0, sumT T100o0 (L100o0 KK))]
noncomputable def b100o3 := bd c100 3
noncomputable def b100o0 := bd c100 0
theorem q100o3 : Qp L100o3 C100 ST100 b100o3 4 T100o3 := fun m vs K => by kernel_rfl
theorem o100o3 : SumOk C100 KK (sumT T100o3 (L100o3 KK)) (.loop b100o3) := loop_ok T100o3 L100o3 (sums_of (t := ST100) ⟨fun _ _ h => absurd h (by decide), fun _ _ h => absurd h (by decide), trivial⟩) (fun _ _ => rfl) q100o3
theorem q100o0 : Qp L100o0 C100 ST100 b100o0 1 T100o0 := fun m vs K => by kernel_rfl
theorem o100o0 : SumOk C100 KK (sumT T100o0 (L100o0 KK)) (.loop b100o0) := loop_ok T100o0 L100o0 (sums_of (t := ST100) ⟨sum_in (c' := .loop b100o3) (by kernel_rfl) (o100o3), fun _ _ h => absurd h (by decide), trivial⟩) (fun _ _ => rfl) q100o0
theorem r100 : Rp tw100 C100 ST100 Try.f100 (sig 100) c100 A100 := fun vs => by kernel_rfl
theorem ok100 : OkS sig (Gd G dep (dep 100)) 100 th100 := fun xs q h => body_ok Try.func100 (c := c100) rfl A100 tw100 (sums_of (C := C100) (t := ST100) ⟨sum_in (c' := .loop b100o3) (by kernel_rfl) (o100o3), sum_in (c' := .loop b100o0) (by kernel_rfl) (o100o0), trivial⟩) r100 (by rw [← tpw100]; exact opt_gOf h)
noncomputable def C102 := mkC 102
noncomputable def c102 := Try.f102.body.getD .skip
def T102o2 : TSt := ⟨[.pv [.i .i64, .l] 0, dI, dI, dI, .ptr 448 0, .undef, dL, dI, dI, dB, dL, dI, dI, .any, .any], [(448, .box [dI, dI, dI, dI, dI, dS, dL, dI, dI])]⟩
def X102o2e1 : TSt := ⟨[.pv [.i .i64, .l] 0, dI, dI, dI, .ptr 448 0, .undef, dL, dI, dI, dB, dL, dI, dI, dB, .any], [(448, .box [dI, dI, dI, dI, dI, dS, dL, dI, dI])]⟩
def L102o2 (m : Nat) (vs : List Vr) (K : KT) : Rs := l102o2 (vI vs 0) (vL vs 1) (vI vs 2) (vI vs 3) (vL vs 5) (vI vs 6) (vI vs 7) (vB vs 8) (vL vs 9) (vI vs 10) (vI vs 14) (vI vs 15) (vI vs 16) (vI vs 17) (vI vs 18) (vS vs 19) (vL vs 20) (vI vs 21) (vI vs 22) (fun n174 n175 b176 v177 => K (.exit 2) (fillS X102o2e1 [jI vs 0, jL vs 1, jI vs 2, jI vs 3, .i (n174), jL vs 5, jI vs 6, jI vs 7, jB vs 8, jL vs 9, jI vs 10, .i (n175), .b (b176), .v (v177), jI vs 14, jI vs 15, jI vs 16, jI vs 17, jI vs 18, jS vs 19, jL vs 20, jI vs 21, jI vs 22])) m (vI vs 4) (vI vs 11) (vV vs 12) (vV vs 13)
def T102o0 : TSt := ⟨[.pv [.i .i64, .l] 0, dI, dI, dI, .undef, .undef, dL, dI, dI, .any, .any, .any, .any, .any, .any], []⟩
def X102o0e1 : TSt := ⟨[.pv [.i .i64, .l] 0, dI, dI, dI, .undef, .undef, dL, dI, dI, dB, .any, .any, .any, .any, .any], []⟩
def L102o0 (m : Nat) (vs : List Vr) (K : KT) : Rs := l102o0 (vI vs 0) (vL vs 1) (vI vs 2) (vI vs 3) (vL vs 5) (vI vs 6) (fun n196 n197 b198 v199 v200 v201 v202 v203 => K (.exit 0) (fillS X102o0e1 [jI vs 0, jL vs 1, jI vs 2, jI vs 3, .i (n196), jL vs 5, jI vs 6, .i (n197), .b (b198), .v (v199), .v (v200), .v (v201), .v (v202), .v (v203)])) m (vI vs 4) (vI vs 7) (vV vs 8) (vV vs 9) (vV vs 10) (vV vs 11) (vV vs 12) (vV vs 13)
def ST102 : LT := [(2, sumT T102o2 (L102o2 KK)), (0, sumT T102o0 (L102o0 KK))]
noncomputable def b102o2 := bd c102 2
noncomputable def b102o0 := bd c102 0
theorem q102o2 : Qp L102o2 C102 ST102 b102o2 3 T102o2 := fun m vs K => by kernel_rfl
theorem o102o2 : SumOk C102 KK (sumT T102o2 (L102o2 KK)) (.loop b102o2) := loop_ok T102o2 L102o2 (sums_of (t := ST102) ⟨fun _ _ h => absurd h (by decide), fun _ _ h => absurd h (by decide), trivial⟩) (fun _ _ => rfl) q102o2
theorem q102o0 : Qp L102o0 C102 ST102 b102o0 1 T102o0 := fun m vs K => by kernel_rfl
theorem o102o0 : SumOk C102 KK (sumT T102o0 (L102o0 KK)) (.loop b102o0) := loop_ok T102o0 L102o0 (sums_of (t := ST102) ⟨sum_in (c' := .loop b102o2) (by kernel_rfl) (o102o2), fun _ _ h => absurd h (by decide), trivial⟩) (fun _ _ => rfl) q102o0
theorem r102 : Rp tw102 C102 ST102 Try.f102 (sig 102) c102 A102 := fun vs => by kernel_rfl
theorem ok102 : OkS sig (Gd G dep (dep 102)) 102 th102 := fun xs q h => body_ok Try.func102 (c := c102) rfl A102 tw102 (sums_of (C := C102) (t := ST102) ⟨sum_in (c' := .loop b102o2) (by kernel_rfl) (o102o2), sum_in (c' := .loop b102o0) (by kernel_rfl) (o102o0), trivial⟩) r102 (by rw [← tpw102]; exact opt_gOf h)
noncomputable def C103 := mkC 103
noncomputable def c103 := Try.f103.body.getD .skip
def T103o0 : TSt := ⟨[.pv [.i .i64, .l] 0, dI, dI, .undef, dL, dI, dI, .any], []⟩
def X103o0e1 : TSt := ⟨[.pv [.i .i64, .l] 0, dI, dI, .undef, dL, dI, dI, dB], []⟩
def L103o0 (m : Nat) (vs : List Vr) (K : KT) : Rs := l103o0 (vI vs 0) (vL vs 1) (vI vs 2) (vL vs 4) (vI vs 5) (fun n26 n27 b28 => K (.exit 0) (fillS X103o0e1 [jI vs 0, jL vs 1, jI vs 2, .i (n26), jL vs 4, jI vs 5, .i (n27), .b (b28)])) m (vI vs 3) (vI vs 6) (vV vs 7)
def ST103 : LT := [(0, sumT T103o0 (L103o0 KK))]
noncomputable def b103o0 := bd c103 0
theorem q103o0 : Qp L103o0 C103 ST103 b103o0 1 T103o0 := fun m vs K => by kernel_rfl
theorem o103o0 : SumOk C103 KK (sumT T103o0 (L103o0 KK)) (.loop b103o0) := loop_ok T103o0 L103o0 (sums_of (t := ST103) ⟨fun _ _ h => absurd h (by decide), trivial⟩) (fun _ _ => rfl) q103o0
theorem r103 : Rp tw103 C103 ST103 Try.f103 (sig 103) c103 A103 := fun vs => by kernel_rfl
theorem ok103 : OkS sig (Gd G dep (dep 103)) 103 th103 := fun xs q h => body_ok Try.func103 (c := c103) rfl A103 tw103 (sums_of (C := C103) (t := ST103) ⟨sum_in (c' := .loop b103o0) (by kernel_rfl) (o103o0), trivial⟩) r103 (by rw [← tpw103]; exact opt_gOf h)
noncomputable def C135 := mkC 135
noncomputable def c135 := Try.f135.body.getD .skip
def T135o0 : TSt := ⟨[.pv [.i .i64, .l] 0, dI, dI, dI, dI, .own 832, .any, .any, .own 832, dI, dI, .any, .any], [(832, .row 3 1)]⟩
def X135o0e1 : TSt := ⟨[.pv [.i .i64, .l] 0, dI, dI, dI, dI, .own 832, .any, .any, .own 832, dI, dI, dB, .any], [(832, .row 3 1)]⟩
def L135o0 (m : Nat) (vs : List Vr) (K : KT) : Rs := la135o0 tu100 tu132 (vI vs 0) (vL vs 1) (vI vs 2) (vI vs 3) (vI vs 4) (vI vs 8) (vL vs 12) (fun n41 v42 v43 n44 b45 v46 => K (.exit 0) (fillS X135o0e1 [jI vs 0, jL vs 1, jI vs 2, jI vs 3, jI vs 4, .i (n41), .v (v42), .v (v43), jI vs 8, .i (n44), .b (b45), .v (v46), jL vs 12])) m (vI vs 5) (vV vs 6) (vV vs 7) (vI vs 9) (vV vs 10) (vV vs 11)
def ST135 : LT := [(0, sumT T135o0 (L135o0 KK))]
noncomputable def b135o0 := bd c135 0
theorem q135o0 : Qp L135o0 C135 ST135 b135o0 1 T135o0 := fun m vs K => by kernel_rfl
theorem o135o0 : SumOk C135 KK (sumT T135o0 (L135o0 KK)) (.loop b135o0) := loop_ok T135o0 L135o0 (sums_of (t := ST135) ⟨fun _ _ h => absurd h (by decide), trivial⟩) (fun _ _ => rfl) q135o0
theorem r135 : Rp tw135 C135 ST135 Try.f135 (sig 135) c135 A135 := fun vs => by kernel_rfl
theorem ok135 : OkS sig (Gd G dep (dep 135)) 135 th135 := fun xs q h => body_ok Try.func135 (c := c135) rfl A135 tw135 (sums_of (C := C135) (t := ST135) ⟨sum_in (c' := .loop b135o0) (by kernel_rfl) (o135o0), trivial⟩) r135 (by rw [← tpw135]; exact opt_gOf h)
noncomputable def C105 := mkC 105
noncomputable def c105 := Try.f105.body.getD .skip
def ST105 : LT := []
theorem r105 : Rp tw105 C105 ST105 Try.f105 (sig 105) c105 A105 := fun vs => by kernel_rfl
theorem ok105 : OkS sig (Gd G dep (dep 105)) 105 th105 := fun xs q h => body_ok Try.func105 (c := c105) rfl A105 tw105 (sums_of (C := C105) (t := ST105) trivial) r105 (by rw [← tpw105]; exact opt_gOf h)
noncomputable def C134 := mkC 134
noncomputable def c134 := Try.f134.body.getD .skip
def T134o0 : TSt := ⟨[dL, .fb 105 [.i .i64, .l], dI, .any, dI, dI, .any, .any], []⟩
def X134o0e1 : TSt := ⟨[dL, .fb 105 [.i .i64, .l], dI, dI, dI, dI, dB, dB], []⟩
def X134o0e2 : TSt := ⟨[dL, .fb 105 [.i .i64, .l], dI, .any, dI, dI, dB, .any], []⟩
def L134o0 (m : Nat) (vs : List Vr) (K : KT) : Rs := la134o0 tu105 (vL vs 0) (vI vs 1) (vL vs 2) (vI vs 3) (vI vs 5) (fun n28 b29 b30 => K .ret (fillS X134o0e1 [jL vs 0, jI vs 1, jL vs 2, .i (n28), .i (n28), jI vs 5, .i (n28), .b (b29), .b (b30)])) (fun v31 n32 b33 v34 => K (.exit 0) (fillS X134o0e2 [jL vs 0, jI vs 1, jL vs 2, jI vs 3, .v (v31), jI vs 5, .i (n32), .b (b33), .v (v34)])) m (vV vs 4) (vI vs 6) (vV vs 7) (vV vs 8)
def ST134 : LT := [(0, sumT T134o0 (L134o0 KK))]
noncomputable def b134o0 := bd c134 0
theorem q134o0 : Qp L134o0 C134 ST134 b134o0 1 T134o0 := fun m vs K => by kernel_rfl
theorem o134o0 : SumOk C134 KK (sumT T134o0 (L134o0 KK)) (.loop b134o0) := loop_ok T134o0 L134o0 (sums_of (t := ST134) ⟨fun _ _ h => absurd h (by decide), trivial⟩) (fun _ _ => rfl) q134o0
theorem r134 : Rp tw134 C134 ST134 Try.f134 (sig 134) c134 A134 := fun vs => by kernel_rfl
theorem ok134 : OkS sig (Gd G dep (dep 134)) 134 th134 := fun xs q h => body_ok Try.func134 (c := c134) rfl A134 tw134 (sums_of (C := C134) (t := ST134) ⟨sum_in (c' := .loop b134o0) (by kernel_rfl) (o134o0), trivial⟩) r134 (by rw [← tpw134]; exact opt_gOf h)
noncomputable def C104 := mkC 104
noncomputable def c104 := Try.f104.body.getD .skip
def ST104 : LT := []
theorem r104 : Rp tw104 C104 ST104 Try.f104 (sig 104) c104 A104 := fun vs => by kernel_rfl
theorem ok104 : OkS sig (Gd G dep (dep 104)) 104 th104 := fun xs q h => body_ok Try.func104 (c := c104) rfl A104 tw104 (sums_of (C := C104) (t := ST104) trivial) r104 (by rw [← tpw104]; exact opt_gOf h)
noncomputable def C66 := mkC 66
noncomputable def c66 := Try.f66.body.getD .skip
def T66o4 : TSt := ⟨[.agg [dI, dL], .ptr 64 0, dB, .any, .undef, .own 4608, .undef, dB, dL, dI, dI, dB, .any, dL, dI, dI, .any, .any], [(64, .box [dI, dL]), (4608, .row 3 1)]⟩
def X66o4e1 : TSt := ⟨[.agg [dI, dL], .ptr 64 0, dB, .any, .undef, .own 4608, .ptr 448 0, dB, dL, dI, dI, dB, .any, dL, dI, dI, dB, dB], [(64, .box [dI, dL]), (448, .box [dI, dI, dI, dI, dI, dS, dL, dI, dI]), (4608, .row 3 1)]⟩
def X66o4e2 : TSt := ⟨[.agg [dI, dL], .ptr 64 0, dB, .any, .undef, .own 4608, .undef, dB, dL, dI, dI, dB, .any, dL, dI, dI, dB, .any], [(64, .box [dI, dL]), (4608, .row 3 1)]⟩
def L66o4 (m : Nat) (vs : List Vr) (K : KT) : Rs := la66o4 tu63 tu99 tu100 tu101 tu102 tu103 tu104 (vI vs 0) (vL vs 1) (vB vs 2) (vB vs 4) (vL vs 5) (vI vs 6) (vI vs 7) (vB vs 8) (vL vs 10) (vI vs 11) (vI vs 15) (vL vs 16) (vL vs 17) (fun v120 v121 n122 b123 b124 n125 n126 n127 n128 n129 s130 l131 n132 n133 => K .ret (fillS X66o4e1 [jI vs 0, jL vs 1, .b (false), .v (v120), jB vs 4, jL vs 5, jI vs 6, jI vs 7, jB vs 8, .v (v121), jL vs 10, jI vs 11, .i (n122), .b (b123), .b (b124), jI vs 15, jL vs 16, .i (n125), .i (n126), .i (n127), .i (n128), .i (n129), .s (s130), .l (l131), .i (n132), .i (n133), jL vs 17])) (fun v134 v135 n136 b137 v138 => K (.exit 2) (fillS X66o4e2 [jI vs 0, jL vs 1, jB vs 2, .v (v134), jB vs 4, jL vs 5, jI vs 6, jI vs 7, jB vs 8, .v (v135), jL vs 10, jI vs 11, .i (n136), .b (b137), .v (v138), jI vs 15, jL vs 16, jL vs 17])) m (vV vs 3) (vV vs 9) (vI vs 12) (vV vs 13) (vV vs 14)
def T66o1 : TSt := ⟨[.agg [dI, dL], .ptr 64 0, dB, .any, .undef, .undef, .undef, dB, dL, dI, dI, .any, .any, .undef, .undef, .undef, .undef, .undef], [(64, .box [dI, dL])]⟩
def X66o1e1 : TSt := ⟨[.agg [dI, dL], .ptr 64 0, dB, dI, .ptr 256 0, .undef, .undef, dB, dL, dI, dI, dB, dB, .undef, .undef, .undef, .undef, .undef], [(64, .box [dI, dL]), (256, .box [dI, dI, dI, dI, dI, dS, dL, dI, dI])]⟩
def X66o1e2 : TSt := ⟨[.agg [dI, dL], .ptr 64 0, dB, .any, .undef, .undef, .undef, dB, dL, dI, dI, dB, .any, .undef, .undef, .undef, .undef, .undef], [(64, .box [dI, dL])]⟩
def L66o1 (m : Nat) (vs : List Vr) (K : KT) : Rs := la66o1 tu63 tu99 tu100 tu101 tu102 tu103 tu104 (vI vs 0) (vL vs 1) (vB vs 2) (vB vs 4) (vL vs 5) (vI vs 6) (vI vs 10) (vL vs 11) (fun n36 b37 b38 n39 n40 n41 n42 n43 s44 l45 n46 n47 => K .ret (fillS X66o1e1 [jI vs 0, jL vs 1, .b (false), .i (n36), jB vs 4, jL vs 5, jI vs 6, .i (n36), .b (b37), .b (b38), jI vs 10, jL vs 11, .i (n39), .i (n40), .i (n41), .i (n42), .i (n43), .s (s44), .l (l45), .i (n46), .i (n47)])) (fun v48 n49 b50 v51 => K (.exit 0) (fillS X66o1e2 [jI vs 0, jL vs 1, jB vs 2, .v (v48), jB vs 4, jL vs 5, jI vs 6, .i (n49), .b (b50), .v (v51), jI vs 10, jL vs 11])) m (vV vs 3) (vI vs 7) (vV vs 8) (vV vs 9)
def ST66 : LT := [(4, sumT T66o4 (L66o4 KK)), (1, sumT T66o1 (L66o1 KK))]
noncomputable def b66o4 := bd c66 4
noncomputable def b66o1 := bd c66 1
theorem q66o4 : Qp L66o4 C66 ST66 b66o4 5 T66o4 := fun m vs K => by kernel_rfl
theorem o66o4 : SumOk C66 KK (sumT T66o4 (L66o4 KK)) (.loop b66o4) := loop_ok T66o4 L66o4 (sums_of (t := ST66) ⟨fun _ _ h => absurd h (by decide), fun _ _ h => absurd h (by decide), trivial⟩) (fun _ _ => rfl) q66o4
theorem q66o1 : Qp L66o1 C66 ST66 b66o1 2 T66o1 := fun m vs K => by kernel_rfl
theorem o66o1 : SumOk C66 KK (sumT T66o1 (L66o1 KK)) (.loop b66o1) := loop_ok T66o1 L66o1 (sums_of (t := ST66) ⟨sum_out (by kernel_rfl), fun _ _ h => absurd h (by decide), trivial⟩) (fun _ _ => rfl) q66o1
theorem r66 : Rp tw66 C66 ST66 Try.f66 (sig 66) c66 A66 := fun vs => by kernel_rfl
theorem ok66 : OkS sig (Gd G dep (dep 66)) 66 th66 := fun xs q h => body_ok Try.func66 (c := c66) rfl A66 tw66 (sums_of (C := C66) (t := ST66) ⟨sum_in (c' := .loop b66o4) (by kernel_rfl) (o66o4), sum_in (c' := .loop b66o1) (by kernel_rfl) (o66o1), trivial⟩) r66 (by rw [← tpw66]; exact opt_gOf h)
noncomputable def C25 := mkC 25
noncomputable def c25 := Try.f25.body.getD .skip
def T25o0 : TSt := ⟨[.agg [dI, dL, dI, dL, dL], .ptr 64 0, dB, .any, .undef, dL, dI, dI, .any, .any], [(64, .box [dI, dL, dI, dL, dL])]⟩
def X25o0e1 : TSt := ⟨[.agg [dI, dL, dI, dL, dL], .ptr 64 0, dB, dI, .ptr 256 0, dL, dI, dI, dB, dB], [(64, .box [dI, dL, dI, dL, dL]), (256, .box [dI, dI, dI, dI, dS])]⟩
def X25o0e2 : TSt := ⟨[.agg [dI, dL, dI, dL, dL], .ptr 64 0, dB, .any, .undef, dL, dI, dI, dB, .any], [(64, .box [dI, dL, dI, dL, dL])]⟩
def L25o0 (m : Nat) (vs : List Vr) (K : KT) : Rs := la25o0 tu63 tu64 tu65 tu66 (vI vs 0) (vL vs 1) (vI vs 2) (vL vs 3) (vL vs 4) (vB vs 5) (vL vs 7) (vI vs 8) (vI vs 12) (vL vs 13) (vI vs 14) (vL vs 15) (vL vs 16) (fun n54 b55 b56 n57 n58 n59 n60 s61 => K .ret (fillS X25o0e1 [jI vs 0, jL vs 1, jI vs 2, jL vs 3, jL vs 4, .b (false), .i (n54), jL vs 7, jI vs 8, .i (n54), .b (b55), .b (b56), jI vs 12, jL vs 13, jI vs 14, jL vs 15, jL vs 16, .i (n57), .i (n58), .i (n59), .i (n60), .s (s61)])) (fun v62 n63 b64 v65 => K (.exit 0) (fillS X25o0e2 [jI vs 0, jL vs 1, jI vs 2, jL vs 3, jL vs 4, jB vs 5, .v (v62), jL vs 7, jI vs 8, .i (n63), .b (b64), .v (v65), jI vs 12, jL vs 13, jI vs 14, jL vs 15, jL vs 16])) m (vV vs 6) (vI vs 9) (vV vs 10) (vV vs 11)
def ST25 : LT := [(0, sumT T25o0 (L25o0 KK))]
noncomputable def b25o0 := bd c25 0
theorem q25o0 : Qp L25o0 C25 ST25 b25o0 1 T25o0 := fun m vs K => by kernel_rfl
theorem o25o0 : SumOk C25 KK (sumT T25o0 (L25o0 KK)) (.loop b25o0) := loop_ok T25o0 L25o0 (sums_of (t := ST25) ⟨fun _ _ h => absurd h (by decide), trivial⟩) (fun _ _ => rfl) q25o0
theorem r25 : Rp tw25 C25 ST25 Try.f25 (sig 25) c25 A25 := fun vs => by kernel_rfl
theorem ok25 : OkS sig (Gd G dep (dep 25)) 25 th25 := fun xs q h => body_ok Try.func25 (c := c25) rfl A25 tw25 (sums_of (C := C25) (t := ST25) ⟨sum_in (c' := .loop b25o0) (by kernel_rfl) (o25o0), trivial⟩) r25 (by rw [← tpw25]; exact opt_gOf h)
noncomputable def C37 := mkC 37
noncomputable def c37 := Try.f37.body.getD .skip
def ST37 : LT := []
theorem r37 : Rp tw37 C37 ST37 Try.f37 (sig 37) c37 A37 := fun vs => by kernel_rfl
theorem ok37 : OkS sig (Gd G dep (dep 37)) 37 th37 := fun xs q h => body_ok Try.func37 (c := c37) rfl A37 tw37 (sums_of (C := C37) (t := ST37) trivial) r37 (by rw [← tpw37]; exact opt_gOf h)
noncomputable def C143 := mkC 143
noncomputable def c143 := Try.f143.body.getD .skip
def ST143 : LT := []
theorem r143 : Rp tw143 C143 ST143 Try.f143 (sig 143) c143 A143 := fun vs => by kernel_rfl
theorem ok143 : OkS sig (Gd G dep (dep 143)) 143 th143 := fun xs q h => body_ok Try.func143 (c := c143) rfl A143 tw143 (sums_of (C := C143) (t := ST143) trivial) r143 (by rw [← tpw143]; exact opt_gOf h)
noncomputable def C137 := mkC 137
noncomputable def c137 := Try.f137.body.getD .skip
def T137o1 : TSt := ⟨[dL, dL, dB, dI, dB, .any, .any], []⟩
def X137o1e1 : TSt := ⟨[dL, dL, dB, dI, dB, dB, dB], []⟩
def X137o1e2 : TSt := ⟨[dL, dL, dB, dI, dB, dB, .any], []⟩
def L137o1 (m : Nat) (vs : List Vr) (K : KT) : Rs := la137o1 tu143 (vL vs 0) (vL vs 1) (vB vs 2) (vB vs 4) (fun n22 b23 b24 => K .ret (fillS X137o1e1 [jL vs 0, jL vs 1, .b (false), .i (n22), jB vs 4, .b (b23), .b (b24)])) (fun n25 b26 v27 => K (.exit 0) (fillS X137o1e2 [jL vs 0, jL vs 1, jB vs 2, .i (n25), jB vs 4, .b (b26), .v (v27)])) m (vI vs 3) (vV vs 5) (vV vs 6)
def ST137 : LT := [(1, sumT T137o1 (L137o1 KK))]
noncomputable def b137o1 := bd c137 1
theorem q137o1 : Qp L137o1 C137 ST137 b137o1 2 T137o1 := fun m vs K => by kernel_rfl
theorem o137o1 : SumOk C137 KK (sumT T137o1 (L137o1 KK)) (.loop b137o1) := loop_ok T137o1 L137o1 (sums_of (t := ST137) ⟨fun _ _ h => absurd h (by decide), trivial⟩) (fun _ _ => rfl) q137o1
theorem r137 : Rp tw137 C137 ST137 Try.f137 (sig 137) c137 A137 := fun vs => by kernel_rfl
theorem ok137 : OkS sig (Gd G dep (dep 137)) 137 th137 := fun xs q h => body_ok Try.func137 (c := c137) rfl A137 tw137 (sums_of (C := C137) (t := ST137) ⟨sum_in (c' := .loop b137o1) (by kernel_rfl) (o137o1), trivial⟩) r137 (by rw [← tpw137]; exact opt_gOf h)
noncomputable def C120 := mkC 120
noncomputable def c120 := Try.f120.body.getD .skip
def ST120 : LT := []
theorem r120 : Rp tw120 C120 ST120 Try.f120 (sig 120) c120 A120 := fun vs => by kernel_rfl
theorem ok120 : OkS sig (Gd G dep (dep 120)) 120 th120 := fun xs q h => body_ok Try.func120 (c := c120) rfl A120 tw120 (sums_of (C := C120) (t := ST120) trivial) r120 (by rw [← tpw120]; exact opt_gOf h)
noncomputable def C83 := mkC 83
noncomputable def c83 := Try.f83.body.getD .skip
def T83o1 : TSt := ⟨[dL, dL, dB, dI, dB, .any, .any], []⟩
def X83o1e1 : TSt := ⟨[dL, dL, dB, dI, dB, dB, dB], []⟩
def X83o1e2 : TSt := ⟨[dL, dL, dB, dI, dB, dB, .any], []⟩
def L83o1 (m : Nat) (vs : List Vr) (K : KT) : Rs := la83o1 tu120 (vL vs 0) (vL vs 1) (vB vs 2) (vB vs 4) (fun n22 b23 b24 => K .ret (fillS X83o1e1 [jL vs 0, jL vs 1, .b (false), .i (n22), jB vs 4, .b (b23), .b (b24)])) (fun n25 b26 v27 => K (.exit 0) (fillS X83o1e2 [jL vs 0, jL vs 1, jB vs 2, .i (n25), jB vs 4, .b (b26), .v (v27)])) m (vI vs 3) (vV vs 5) (vV vs 6)
def ST83 : LT := [(1, sumT T83o1 (L83o1 KK))]
noncomputable def b83o1 := bd c83 1
theorem q83o1 : Qp L83o1 C83 ST83 b83o1 2 T83o1 := fun m vs K => by kernel_rfl
theorem o83o1 : SumOk C83 KK (sumT T83o1 (L83o1 KK)) (.loop b83o1) := loop_ok T83o1 L83o1 (sums_of (t := ST83) ⟨fun _ _ h => absurd h (by decide), trivial⟩) (fun _ _ => rfl) q83o1
theorem r83 : Rp tw83 C83 ST83 Try.f83 (sig 83) c83 A83 := fun vs => by kernel_rfl
theorem ok83 : OkS sig (Gd G dep (dep 83)) 83 th83 := fun xs q h => body_ok Try.func83 (c := c83) rfl A83 tw83 (sums_of (C := C83) (t := ST83) ⟨sum_in (c' := .loop b83o1) (by kernel_rfl) (o83o1), trivial⟩) r83 (by rw [← tpw83]; exact opt_gOf h)
noncomputable def C42 := mkC 42
noncomputable def c42 := Try.f42.body.getD .skip
def ST42 : LT := []
theorem r42 : Rp tw42 C42 ST42 Try.f42 (sig 42) c42 A42 := fun vs => by kernel_rfl
theorem ok42 : OkS sig (Gd G dep (dep 42)) 42 th42 := fun xs q h => body_ok Try.func42 (c := c42) rfl A42 tw42 (sums_of (C := C42) (t := ST42) trivial) r42 (by rw [← tpw42]; exact opt_gOf h)
noncomputable def C84 := mkC 84
noncomputable def c84 := Try.f84.body.getD .skip
def ST84 : LT := []
theorem r84 : Rp tw84 C84 ST84 Try.f84 (sig 84) c84 A84 := fun vs => by kernel_rfl
theorem ok84 : OkS sig (Gd G dep (dep 84)) 84 th84 := fun xs q h => body_ok Try.func84 (c := c84) rfl A84 tw84 (sums_of (C := C84) (t := ST84) trivial) r84 (by rw [← tpw84]; exact opt_gOf h)
noncomputable def C43 := mkC 43
noncomputable def c43 := Try.f43.body.getD .skip
def T43o1 : TSt := ⟨[dL, dL, dB, dI, dB, .any, .any], []⟩
def X43o1e1 : TSt := ⟨[dL, dL, dB, dI, dB, dB, dB], []⟩
def X43o1e2 : TSt := ⟨[dL, dL, dB, dI, dB, dB, .any], []⟩
def L43o1 (m : Nat) (vs : List Vr) (K : KT) : Rs := la43o1 tu84 (vL vs 0) (vL vs 1) (vB vs 2) (vB vs 4) (fun n22 b23 b24 => K .ret (fillS X43o1e1 [jL vs 0, jL vs 1, .b (false), .i (n22), jB vs 4, .b (b23), .b (b24)])) (fun n25 b26 v27 => K (.exit 0) (fillS X43o1e2 [jL vs 0, jL vs 1, jB vs 2, .i (n25), jB vs 4, .b (b26), .v (v27)])) m (vI vs 3) (vV vs 5) (vV vs 6)
def ST43 : LT := [(1, sumT T43o1 (L43o1 KK))]
noncomputable def b43o1 := bd c43 1
theorem q43o1 : Qp L43o1 C43 ST43 b43o1 2 T43o1 := fun m vs K => by kernel_rfl
theorem o43o1 : SumOk C43 KK (sumT T43o1 (L43o1 KK)) (.loop b43o1) := loop_ok T43o1 L43o1 (sums_of (t := ST43) ⟨fun _ _ h => absurd h (by decide), trivial⟩) (fun _ _ => rfl) q43o1
theorem r43 : Rp tw43 C43 ST43 Try.f43 (sig 43) c43 A43 := fun vs => by kernel_rfl
theorem ok43 : OkS sig (Gd G dep (dep 43)) 43 th43 := fun xs q h => body_ok Try.func43 (c := c43) rfl A43 tw43 (sums_of (C := C43) (t := ST43) ⟨sum_in (c' := .loop b43o1) (by kernel_rfl) (o43o1), trivial⟩) r43 (by rw [← tpw43]; exact opt_gOf h)
noncomputable def C121 := mkC 121
noncomputable def c121 := Try.f121.body.getD .skip
def ST121 : LT := []
theorem r121 : Rp tw121 C121 ST121 Try.f121 (sig 121) c121 A121 := fun vs => by kernel_rfl
theorem ok121 : OkS sig (Gd G dep (dep 121)) 121 th121 := fun xs q h => body_ok Try.func121 (c := c121) rfl A121 tw121 (sums_of (C := C121) (t := ST121) trivial) r121 (by rw [← tpw121]; exact opt_gOf h)
noncomputable def C85 := mkC 85
noncomputable def c85 := Try.f85.body.getD .skip
def ST85 : LT := []
theorem r85 : Rp tw85 C85 ST85 Try.f85 (sig 85) c85 A85 := fun vs => by kernel_rfl
theorem ok85 : OkS sig (Gd G dep (dep 85)) 85 th85 := fun xs q h => body_ok Try.func85 (c := c85) rfl A85 tw85 (sums_of (C := C85) (t := ST85) trivial) r85 (by rw [← tpw85]; exact opt_gOf h)
noncomputable def C44 := mkC 44
noncomputable def c44 := Try.f44.body.getD .skip
def T44o1 : TSt := ⟨[dL, dL, dB, dI, dB, .any, .any], []⟩
def X44o1e1 : TSt := ⟨[dL, dL, dB, dI, dB, dB, dB], []⟩
def X44o1e2 : TSt := ⟨[dL, dL, dB, dI, dB, dB, .any], []⟩
def L44o1 (m : Nat) (vs : List Vr) (K : KT) : Rs := la44o1 tu85 (vL vs 0) (vL vs 1) (vB vs 2) (vB vs 4) (fun n22 b23 b24 => K .ret (fillS X44o1e1 [jL vs 0, jL vs 1, .b (false), .i (n22), jB vs 4, .b (b23), .b (b24)])) (fun n25 b26 v27 => K (.exit 0) (fillS X44o1e2 [jL vs 0, jL vs 1, jB vs 2, .i (n25), jB vs 4, .b (b26), .v (v27)])) m (vI vs 3) (vV vs 5) (vV vs 6)
def ST44 : LT := [(1, sumT T44o1 (L44o1 KK))]
noncomputable def b44o1 := bd c44 1
theorem q44o1 : Qp L44o1 C44 ST44 b44o1 2 T44o1 := fun m vs K => by kernel_rfl
theorem o44o1 : SumOk C44 KK (sumT T44o1 (L44o1 KK)) (.loop b44o1) := loop_ok T44o1 L44o1 (sums_of (t := ST44) ⟨fun _ _ h => absurd h (by decide), trivial⟩) (fun _ _ => rfl) q44o1
theorem r44 : Rp tw44 C44 ST44 Try.f44 (sig 44) c44 A44 := fun vs => by kernel_rfl
theorem ok44 : OkS sig (Gd G dep (dep 44)) 44 th44 := fun xs q h => body_ok Try.func44 (c := c44) rfl A44 tw44 (sums_of (C := C44) (t := ST44) ⟨sum_in (c' := .loop b44o1) (by kernel_rfl) (o44o1), trivial⟩) r44 (by rw [← tpw44]; exact opt_gOf h)
noncomputable def C14 := mkC 14
noncomputable def c14 := Try.f14.body.getD .skip
def ST14 : LT := []
theorem r14 : Rp tw14 C14 ST14 Try.f14 (sig 14) c14 A14 := fun vs => by kernel_rfl
theorem ok14 : OkS sig (Gd G dep (dep 14)) 14 th14 := fun xs q h => body_ok Try.func14 (c := c14) rfl A14 tw14 (sums_of (C := C14) (t := ST14) trivial) r14 (by rw [← tpw14]; exact opt_gOf h)
noncomputable def C86 := mkC 86
noncomputable def c86 := Try.f86.body.getD .skip
def T86o1 : TSt := ⟨[dI, dS, dS, dB, .any], []⟩
def X86o1e1 : TSt := ⟨[dI, dS, dS, dB, dB], []⟩
def L86o1 (m : Nat) (vs : List Vr) (K : KT) : Rs := l86o1 (vS vs 1) (vB vs 3) (fun n16 s17 b18 => K (.exit 0) (fillS X86o1e1 [.i (n16), jS vs 1, .s (s17), jB vs 3, .b (b18)])) m (vI vs 0) (vS vs 2) (vV vs 4)
def ST86 : LT := [(1, sumT T86o1 (L86o1 KK))]
noncomputable def b86o1 := bd c86 1
theorem q86o1 : Qp L86o1 C86 ST86 b86o1 2 T86o1 := fun m vs K => by kernel_rfl
theorem o86o1 : SumOk C86 KK (sumT T86o1 (L86o1 KK)) (.loop b86o1) := loop_ok T86o1 L86o1 (sums_of (t := ST86) ⟨fun _ _ h => absurd h (by decide), trivial⟩) (fun _ _ => rfl) q86o1
theorem r86 : Rp tw86 C86 ST86 Try.f86 (sig 86) c86 A86 := fun vs => by kernel_rfl
theorem ok86 : OkS sig (Gd G dep (dep 86)) 86 th86 := fun xs q h => body_ok Try.func86 (c := c86) rfl A86 tw86 (sums_of (C := C86) (t := ST86) ⟨sum_in (c' := .loop b86o1) (by kernel_rfl) (o86o1), trivial⟩) r86 (by rw [← tpw86]; exact opt_gOf h)
noncomputable def C87 := mkC 87
noncomputable def c87 := Try.f87.body.getD .skip
def T87o0 : TSt := ⟨[.own 1, dI, dI, dI, .any], [(1, .row 999999999 2)]⟩
def X87o0e1 : TSt := ⟨[.own 1, dI, dI, dI, dB], [(1, .row 999999999 2)]⟩
def L87o0 (m : Nat) (vs : List Vr) (K : KT) : Rs := la87o0 tu86 (vI vs 1) (fun n17 n18 b19 l20 => K (.exit 0) (fillS X87o0e1 [.i (n17), jI vs 1, .i (n18), .b (b19), .l (l20)])) m (vI vs 0) (vI vs 2) (vV vs 3) (vL vs 4)
def ST87 : LT := [(0, sumT T87o0 (L87o0 KK))]
noncomputable def b87o0 := bd c87 0
theorem q87o0 : Qp L87o0 C87 ST87 b87o0 1 T87o0 := fun m vs K => by kernel_rfl
theorem o87o0 : SumOk C87 KK (sumT T87o0 (L87o0 KK)) (.loop b87o0) := loop_ok T87o0 L87o0 (sums_of (t := ST87) ⟨fun _ _ h => absurd h (by decide), trivial⟩) (fun _ _ => rfl) q87o0
theorem r87 : Rp tw87 C87 ST87 Try.f87 (sig 87) c87 A87 := fun vs => by kernel_rfl
theorem ok87 : OkS sig (Gd G dep (dep 87)) 87 th87 := fun xs q h => body_ok Try.func87 (c := c87) rfl A87 tw87 (sums_of (C := C87) (t := ST87) ⟨sum_in (c' := .loop b87o0) (by kernel_rfl) (o87o0), trivial⟩) r87 (by rw [← tpw87]; exact opt_gOf h)
noncomputable def C51 := mkC 51
noncomputable def c51 := Try.f51.body.getD .skip
def T51o0 : TSt := ⟨[.own 1, dI, dI, dI, .any], [(1, .row 999999999 9)]⟩
def X51o0e1 : TSt := ⟨[.own 1, dI, dI, dI, dB], [(1, .row 999999999 9)]⟩
def L51o0 (m : Nat) (vs : List Vr) (K : KT) : Rs := la51o0 tu86 tu87 (vI vs 1) (fun n17 n18 b19 l20 => K (.exit 0) (fillS X51o0e1 [.i (n17), jI vs 1, .i (n18), .b (b19), .l (l20)])) m (vI vs 0) (vI vs 2) (vV vs 3) (vL vs 4)
def ST51 : LT := [(0, sumT T51o0 (L51o0 KK))]
noncomputable def b51o0 := bd c51 0
theorem q51o0 : Qp L51o0 C51 ST51 b51o0 1 T51o0 := fun m vs K => by kernel_rfl
theorem o51o0 : SumOk C51 KK (sumT T51o0 (L51o0 KK)) (.loop b51o0) := loop_ok T51o0 L51o0 (sums_of (t := ST51) ⟨fun _ _ h => absurd h (by decide), trivial⟩) (fun _ _ => rfl) q51o0
theorem r51 : Rp tw51 C51 ST51 Try.f51 (sig 51) c51 A51 := fun vs => by kernel_rfl
theorem ok51 : OkS sig (Gd G dep (dep 51)) 51 th51 := fun xs q h => body_ok Try.func51 (c := c51) rfl A51 tw51 (sums_of (C := C51) (t := ST51) ⟨sum_in (c' := .loop b51o0) (by kernel_rfl) (o51o0), trivial⟩) r51 (by rw [← tpw51]; exact opt_gOf h)
noncomputable def C45 := mkC 45
noncomputable def c45 := Try.f45.body.getD .skip
def ST45 : LT := []
theorem r45 : Rp tw45 C45 ST45 Try.f45 (sig 45) c45 A45 := fun vs => by kernel_rfl
theorem ok45 : OkS sig (Gd G dep (dep 45)) 45 th45 := fun xs q h => body_ok Try.func45 (c := c45) rfl A45 tw45 (sums_of (C := C45) (t := ST45) trivial) r45 (by rw [← tpw45]; exact opt_gOf h)
noncomputable def C46 := mkC 46
noncomputable def c46 := Try.f46.body.getD .skip
def T46o0 : TSt := ⟨[.own 1, dI, dI, dI, .any], [(1, .row 999999999 5)]⟩
def X46o0e1 : TSt := ⟨[.own 1, dI, dI, dI, dB], [(1, .row 999999999 5)]⟩
def L46o0 (m : Nat) (vs : List Vr) (K : KT) : Rs := l46o0 (vI vs 1) (fun n17 n18 b19 l20 => K (.exit 0) (fillS X46o0e1 [.i (n17), jI vs 1, .i (n18), .b (b19), .l (l20)])) m (vI vs 0) (vI vs 2) (vV vs 3) (vL vs 4)
def ST46 : LT := [(0, sumT T46o0 (L46o0 KK))]
noncomputable def b46o0 := bd c46 0
theorem q46o0 : Qp L46o0 C46 ST46 b46o0 1 T46o0 := fun m vs K => by kernel_rfl
theorem o46o0 : SumOk C46 KK (sumT T46o0 (L46o0 KK)) (.loop b46o0) := loop_ok T46o0 L46o0 (sums_of (t := ST46) ⟨fun _ _ h => absurd h (by decide), trivial⟩) (fun _ _ => rfl) q46o0
theorem r46 : Rp tw46 C46 ST46 Try.f46 (sig 46) c46 A46 := fun vs => by kernel_rfl
theorem ok46 : OkS sig (Gd G dep (dep 46)) 46 th46 := fun xs q h => body_ok Try.func46 (c := c46) rfl A46 tw46 (sums_of (C := C46) (t := ST46) ⟨sum_in (c' := .loop b46o0) (by kernel_rfl) (o46o0), trivial⟩) r46 (by rw [← tpw46]; exact opt_gOf h)
noncomputable def C47 := mkC 47
noncomputable def c47 := Try.f47.body.getD .skip
def T47o0 : TSt := ⟨[.own 1, dI, dI, dI, .any], [(1, .row 999999999 5)]⟩
def X47o0e1 : TSt := ⟨[.own 1, dI, dI, dI, dB], [(1, .row 999999999 5)]⟩
def L47o0 (m : Nat) (vs : List Vr) (K : KT) : Rs := la47o0 tu86 (vI vs 1) (fun n17 n18 b19 l20 => K (.exit 0) (fillS X47o0e1 [.i (n17), jI vs 1, .i (n18), .b (b19), .l (l20)])) m (vI vs 0) (vI vs 2) (vV vs 3) (vL vs 4)
def ST47 : LT := [(0, sumT T47o0 (L47o0 KK))]
noncomputable def b47o0 := bd c47 0
theorem q47o0 : Qp L47o0 C47 ST47 b47o0 1 T47o0 := fun m vs K => by kernel_rfl
theorem o47o0 : SumOk C47 KK (sumT T47o0 (L47o0 KK)) (.loop b47o0) := loop_ok T47o0 L47o0 (sums_of (t := ST47) ⟨fun _ _ h => absurd h (by decide), trivial⟩) (fun _ _ => rfl) q47o0
theorem r47 : Rp tw47 C47 ST47 Try.f47 (sig 47) c47 A47 := fun vs => by kernel_rfl
theorem ok47 : OkS sig (Gd G dep (dep 47)) 47 th47 := fun xs q h => body_ok Try.func47 (c := c47) rfl A47 tw47 (sums_of (C := C47) (t := ST47) ⟨sum_in (c' := .loop b47o0) (by kernel_rfl) (o47o0), trivial⟩) r47 (by rw [← tpw47]; exact opt_gOf h)
noncomputable def C15 := mkC 15
noncomputable def c15 := Try.f15.body.getD .skip
def ST15 : LT := []
theorem r15 : Rp tw15 C15 ST15 Try.f15 (sig 15) c15 A15 := fun vs => by kernel_rfl
theorem ok15 : OkS sig (Gd G dep (dep 15)) 15 th15 := fun xs q h => body_ok Try.func15 (c := c15) rfl A15 tw15 (sums_of (C := C15) (t := ST15) trivial) r15 (by rw [← tpw15]; exact opt_gOf h)
noncomputable def C88 := mkC 88
noncomputable def c88 := Try.f88.body.getD .skip
def T88o0 : TSt := ⟨[dL, dI, dI, dI, .any, .any, .any], []⟩
def X88o0e1 : TSt := ⟨[dL, dI, dI, dI, dB, dB, .any], []⟩
def X88o0e2 : TSt := ⟨[dL, dI, dI, dI, dB, dB, dB], []⟩
def X88o0e3 : TSt := ⟨[dL, dI, dI, dI, dB, .any, .any], []⟩
def L88o0 (m : Nat) (vs : List Vr) (K : KT) : Rs := la88o0 tu86 (vL vs 0) (vI vs 2) (fun n21 n22 b23 b24 v25 => K .ret (fillS X88o0e1 [jL vs 0, .i (n21), .i ((-1 : Int)), .i (n22), .b (b23), .b (b24), .v (v25)])) (fun n26 n27 b28 b29 b30 => K .ret (fillS X88o0e2 [jL vs 0, .i (n26), .i ((-1 : Int)), .i (n27), .b (b28), .b (b29), .b (b30)])) (fun n31 n32 b33 v34 v35 => K (.exit 0) (fillS X88o0e3 [jL vs 0, .i (n31), jI vs 2, .i (n32), .b (b33), .v (v34), .v (v35)])) m (vI vs 1) (vI vs 3) (vV vs 4) (vV vs 5) (vV vs 6)
def ST88 : LT := [(0, sumT T88o0 (L88o0 KK))]
noncomputable def b88o0 := bd c88 0
theorem q88o0 : Qp L88o0 C88 ST88 b88o0 1 T88o0 := fun m vs K => by kernel_rfl
theorem o88o0 : SumOk C88 KK (sumT T88o0 (L88o0 KK)) (.loop b88o0) := loop_ok T88o0 L88o0 (sums_of (t := ST88) ⟨fun _ _ h => absurd h (by decide), trivial⟩) (fun _ _ => rfl) q88o0
theorem r88 : Rp tw88 C88 ST88 Try.f88 (sig 88) c88 A88 := fun vs => by kernel_rfl
theorem ok88 : OkS sig (Gd G dep (dep 88)) 88 th88 := fun xs q h => body_ok Try.func88 (c := c88) rfl A88 tw88 (sums_of (C := C88) (t := ST88) ⟨sum_in (c' := .loop b88o0) (by kernel_rfl) (o88o0), trivial⟩) r88 (by rw [← tpw88]; exact opt_gOf h)
noncomputable def C52 := mkC 52
noncomputable def c52 := Try.f52.body.getD .skip
def T52o0 : TSt := ⟨[dL, dI, dI, dI, .any, .any, .any, .any, .any, .any, .any, .any, .any, .any], []⟩
def X52o0e1 : TSt := ⟨[dL, dI, dI, dI, dB, dB, .any, .any, .any, .any, .any, .any, .any, .any], []⟩
def X52o0e2 : TSt := ⟨[dL, dI, dI, dI, dB, dB, dB, .any, .any, .any, .any, .any, .any, .any], []⟩
def X52o0e3 : TSt := ⟨[dL, dI, dI, dI, dB, dB, dB, dB, .any, .any, .any, .any, .any, .any], []⟩
def X52o0e4 : TSt := ⟨[dL, dI, dI, dI, dB, dB, dB, dB, dB, .any, .any, .any, .any, .any], []⟩
def X52o0e5 : TSt := ⟨[dL, dI, dI, dI, dB, dB, dB, dB, dB, dB, .any, .any, .any, .any], []⟩
def X52o0e6 : TSt := ⟨[dL, dI, dI, dI, dB, dB, dB, dB, dB, dB, dB, .any, .any, .any], []⟩
def X52o0e7 : TSt := ⟨[dL, dI, dI, dI, dB, dB, dB, dB, dB, dB, dB, dB, .any, .any], []⟩
def X52o0e8 : TSt := ⟨[dL, dI, dI, dI, dB, dB, dB, dB, dB, dB, dB, dB, dB, .any], []⟩
def X52o0e9 : TSt := ⟨[dL, dI, dI, dI, dB, dB, dB, dB, dB, dB, dB, dB, dB, dB], []⟩
def X52o0e10 : TSt := ⟨[dL, dI, dI, dI, dB, .any, .any, .any, .any, .any, .any, .any, .any, .any], []⟩
def L52o0 (m : Nat) (vs : List Vr) (K : KT) : Rs := la52o0 tu86 tu88 (vL vs 0) (vI vs 2) (fun n35 n36 b37 b38 v39 v40 v41 v42 v43 v44 v45 v46 => K .ret (fillS X52o0e1 [jL vs 0, .i (n35), .i ((-1 : Int)), .i (n36), .b (b37), .b (b38), .v (v39), .v (v40), .v (v41), .v (v42), .v (v43), .v (v44), .v (v45), .v (v46)])) (fun n47 n48 b49 b50 b51 v52 v53 v54 v55 v56 v57 v58 => K .ret (fillS X52o0e2 [jL vs 0, .i (n47), .i ((-1 : Int)), .i (n48), .b (b49), .b (b50), .b (b51), .v (v52), .v (v53), .v (v54), .v (v55), .v (v56), .v (v57), .v (v58)])) (fun n59 n60 b61 b62 b63 b64 v65 v66 v67 v68 v69 v70 => K .ret (fillS X52o0e3 [jL vs 0, .i (n59), .i ((-1 : Int)), .i (n60), .b (b61), .b (b62), .b (b63), .b (b64), .v (v65), .v (v66), .v (v67), .v (v68), .v (v69), .v (v70)])) (fun n71 n72 b73 b74 b75 b76 b77 v78 v79 v80 v81 v82 => K .ret (fillS X52o0e4 [jL vs 0, .i (n71), .i ((-1 : Int)), .i (n72), .b (b73), .b (b74), .b (b75), .b (b76), .b (b77), .v (v78), .v (v79), .v (v80), .v (v81), .v (v82)])) (fun n83 n84 b85 b86 b87 b88 b89 b90 v91 v92 v93 v94 => K .ret (fillS X52o0e5 [jL vs 0, .i (n83), .i ((-1 : Int)), .i (n84), .b (b85), .b (b86), .b (b87), .b (b88), .b (b89), .b (b90), .v (v91), .v (v92), .v (v93), .v (v94)])) (fun n95 n96 b97 b98 b99 b100 b101 b102 b103 v104 v105 v106 => K .ret (fillS X52o0e6 [jL vs 0, .i (n95), .i ((-1 : Int)), .i (n96), .b (b97), .b (b98), .b (b99), .b (b100), .b (b101), .b (b102), .b (b103), .v (v104), .v (v105), .v (v106)])) (fun n107 n108 b109 b110 b111 b112 b113 b114 b115 b116 v117 v118 => K .ret (fillS X52o0e7 [jL vs 0, .i (n107), .i ((-1 : Int)), .i (n108), .b (b109), .b (b110), .b (b111), .b (b112), .b (b113), .b (b114), .b (b115), .b (b116), .v (v117), .v (v118)])) (fun n119 n120 b121 b122 b123 b124 b125 b126 b127 b128 b129 v130 => K .ret (fillS X52o0e8 [jL vs 0, .i (n119), .i ((-1 : Int)), .i (n120), .b (b121), .b (b122), .b (b123), .b (b124), .b (b125), .b (b126), .b (b127), .b (b128), .b (b129), .v (v130)])) (fun n131 n132 b133 b134 b135 b136 b137 b138 b139 b140 b141 b142 => K .ret (fillS X52o0e9 [jL vs 0, .i (n131), .i ((-1 : Int)), .i (n132), .b (b133), .b (b134), .b (b135), .b (b136), .b (b137), .b (b138), .b (b139), .b (b140), .b (b141), .b (b142)])) (fun n143 n144 b145 v146 v147 v148 v149 v150 v151 v152 v153 v154 => K (.exit 0) (fillS X52o0e10 [jL vs 0, .i (n143), jI vs 2, .i (n144), .b (b145), .v (v146), .v (v147), .v (v148), .v (v149), .v (v150), .v (v151), .v (v152), .v (v153), .v (v154)])) m (vI vs 1) (vI vs 3) (vV vs 4) (vV vs 5) (vV vs 6) (vV vs 7) (vV vs 8) (vV vs 9) (vV vs 10) (vV vs 11) (vV vs 12) (vV vs 13)
def ST52 : LT := [(0, sumT T52o0 (L52o0 KK))]
noncomputable def b52o0 := bd c52 0
theorem q52o0 : Qp L52o0 C52 ST52 b52o0 1 T52o0 := fun m vs K => by kernel_rfl
theorem o52o0 : SumOk C52 KK (sumT T52o0 (L52o0 KK)) (.loop b52o0) := loop_ok T52o0 L52o0 (sums_of (t := ST52) ⟨fun _ _ h => absurd h (by decide), trivial⟩) (fun _ _ => rfl) q52o0
theorem r52 : Rp tw52 C52 ST52 Try.f52 (sig 52) c52 A52 := fun vs => by kernel_rfl
theorem ok52 : OkS sig (Gd G dep (dep 52)) 52 th52 := fun xs q h => body_ok Try.func52 (c := c52) rfl A52 tw52 (sums_of (C := C52) (t := ST52) ⟨sum_in (c' := .loop b52o0) (by kernel_rfl) (o52o0), trivial⟩) r52 (by rw [← tpw52]; exact opt_gOf h)
noncomputable def C48 := mkC 48
noncomputable def c48 := Try.f48.body.getD .skip
def ST48 : LT := []
theorem r48 : Rp tw48 C48 ST48 Try.f48 (sig 48) c48 A48 := fun vs => by kernel_rfl
theorem ok48 : OkS sig (Gd G dep (dep 48)) 48 th48 := fun xs q h => body_ok Try.func48 (c := c48) rfl A48 tw48 (sums_of (C := C48) (t := ST48) trivial) r48 (by rw [← tpw48]; exact opt_gOf h)
noncomputable def C49 := mkC 49
noncomputable def c49 := Try.f49.body.getD .skip
def T49o0 : TSt := ⟨[dL, dI, dI, dI, .any, .any, .any, .any, .any, .any], []⟩
def X49o0e1 : TSt := ⟨[dL, dI, dI, dI, dB, dB, .any, .any, .any, .any], []⟩
def X49o0e2 : TSt := ⟨[dL, dI, dI, dI, dB, dB, dB, .any, .any, .any], []⟩
def X49o0e3 : TSt := ⟨[dL, dI, dI, dI, dB, dB, dB, dB, .any, .any], []⟩
def X49o0e4 : TSt := ⟨[dL, dI, dI, dI, dB, dB, dB, dB, dB, .any], []⟩
def X49o0e5 : TSt := ⟨[dL, dI, dI, dI, dB, dB, dB, dB, dB, dB], []⟩
def X49o0e6 : TSt := ⟨[dL, dI, dI, dI, dB, .any, .any, .any, .any, .any], []⟩
def L49o0 (m : Nat) (vs : List Vr) (K : KT) : Rs := l49o0 (vL vs 0) (vI vs 2) (fun n27 n28 b29 b30 v31 v32 v33 v34 => K .ret (fillS X49o0e1 [jL vs 0, .i (n27), .i ((-1 : Int)), .i (n28), .b (b29), .b (b30), .v (v31), .v (v32), .v (v33), .v (v34)])) (fun n35 n36 b37 b38 b39 v40 v41 v42 => K .ret (fillS X49o0e2 [jL vs 0, .i (n35), .i ((-1 : Int)), .i (n36), .b (b37), .b (b38), .b (b39), .v (v40), .v (v41), .v (v42)])) (fun n43 n44 b45 b46 b47 b48 v49 v50 => K .ret (fillS X49o0e3 [jL vs 0, .i (n43), .i ((-1 : Int)), .i (n44), .b (b45), .b (b46), .b (b47), .b (b48), .v (v49), .v (v50)])) (fun n51 n52 b53 b54 b55 b56 b57 v58 => K .ret (fillS X49o0e4 [jL vs 0, .i (n51), .i ((-1 : Int)), .i (n52), .b (b53), .b (b54), .b (b55), .b (b56), .b (b57), .v (v58)])) (fun n59 n60 b61 b62 b63 b64 b65 b66 => K .ret (fillS X49o0e5 [jL vs 0, .i (n59), .i ((-1 : Int)), .i (n60), .b (b61), .b (b62), .b (b63), .b (b64), .b (b65), .b (b66)])) (fun n67 n68 b69 v70 v71 v72 v73 v74 => K (.exit 0) (fillS X49o0e6 [jL vs 0, .i (n67), jI vs 2, .i (n68), .b (b69), .v (v70), .v (v71), .v (v72), .v (v73), .v (v74)])) m (vI vs 1) (vI vs 3) (vV vs 4) (vV vs 5) (vV vs 6) (vV vs 7) (vV vs 8) (vV vs 9)
def ST49 : LT := [(0, sumT T49o0 (L49o0 KK))]
noncomputable def b49o0 := bd c49 0
theorem q49o0 : Qp L49o0 C49 ST49 b49o0 1 T49o0 := fun m vs K => by kernel_rfl
theorem o49o0 : SumOk C49 KK (sumT T49o0 (L49o0 KK)) (.loop b49o0) := loop_ok T49o0 L49o0 (sums_of (t := ST49) ⟨fun _ _ h => absurd h (by decide), trivial⟩) (fun _ _ => rfl) q49o0
theorem r49 : Rp tw49 C49 ST49 Try.f49 (sig 49) c49 A49 := fun vs => by kernel_rfl
theorem ok49 : OkS sig (Gd G dep (dep 49)) 49 th49 := fun xs q h => body_ok Try.func49 (c := c49) rfl A49 tw49 (sums_of (C := C49) (t := ST49) ⟨sum_in (c' := .loop b49o0) (by kernel_rfl) (o49o0), trivial⟩) r49 (by rw [← tpw49]; exact opt_gOf h)
noncomputable def C50 := mkC 50
noncomputable def c50 := Try.f50.body.getD .skip
def T50o0 : TSt := ⟨[dL, dI, dI, dI, .any, .any, .any, .any, .any, .any], []⟩
def X50o0e1 : TSt := ⟨[dL, dI, dI, dI, dB, dB, .any, .any, .any, .any], []⟩
def X50o0e2 : TSt := ⟨[dL, dI, dI, dI, dB, dB, dB, .any, .any, .any], []⟩
def X50o0e3 : TSt := ⟨[dL, dI, dI, dI, dB, dB, dB, dB, .any, .any], []⟩
def X50o0e4 : TSt := ⟨[dL, dI, dI, dI, dB, dB, dB, dB, dB, .any], []⟩
def X50o0e5 : TSt := ⟨[dL, dI, dI, dI, dB, dB, dB, dB, dB, dB], []⟩
def X50o0e6 : TSt := ⟨[dL, dI, dI, dI, dB, .any, .any, .any, .any, .any], []⟩
def L50o0 (m : Nat) (vs : List Vr) (K : KT) : Rs := la50o0 tu86 (vL vs 0) (vI vs 2) (fun n27 n28 b29 b30 v31 v32 v33 v34 => K .ret (fillS X50o0e1 [jL vs 0, .i (n27), .i ((-1 : Int)), .i (n28), .b (b29), .b (b30), .v (v31), .v (v32), .v (v33), .v (v34)])) (fun n35 n36 b37 b38 b39 v40 v41 v42 => K .ret (fillS X50o0e2 [jL vs 0, .i (n35), .i ((-1 : Int)), .i (n36), .b (b37), .b (b38), .b (b39), .v (v40), .v (v41), .v (v42)])) (fun n43 n44 b45 b46 b47 b48 v49 v50 => K .ret (fillS X50o0e3 [jL vs 0, .i (n43), .i ((-1 : Int)), .i (n44), .b (b45), .b (b46), .b (b47), .b (b48), .v (v49), .v (v50)])) (fun n51 n52 b53 b54 b55 b56 b57 v58 => K .ret (fillS X50o0e4 [jL vs 0, .i (n51), .i ((-1 : Int)), .i (n52), .b (b53), .b (b54), .b (b55), .b (b56), .b (b57), .v (v58)])) (fun n59 n60 b61 b62 b63 b64 b65 b66 => K .ret (fillS X50o0e5 [jL vs 0, .i (n59), .i ((-1 : Int)), .i (n60), .b (b61), .b (b62), .b (b63), .b (b64), .b (b65), .b (b66)])) (fun n67 n68 b69 v70 v71 v72 v73 v74 => K (.exit 0) (fillS X50o0e6 [jL vs 0, .i (n67), jI vs 2, .i (n68), .b (b69), .v (v70), .v (v71), .v (v72), .v (v73), .v (v74)])) m (vI vs 1) (vI vs 3) (vV vs 4) (vV vs 5) (vV vs 6) (vV vs 7) (vV vs 8) (vV vs 9)
def ST50 : LT := [(0, sumT T50o0 (L50o0 KK))]
noncomputable def b50o0 := bd c50 0
theorem q50o0 : Qp L50o0 C50 ST50 b50o0 1 T50o0 := fun m vs K => by kernel_rfl
theorem o50o0 : SumOk C50 KK (sumT T50o0 (L50o0 KK)) (.loop b50o0) := loop_ok T50o0 L50o0 (sums_of (t := ST50) ⟨fun _ _ h => absurd h (by decide), trivial⟩) (fun _ _ => rfl) q50o0
theorem r50 : Rp tw50 C50 ST50 Try.f50 (sig 50) c50 A50 := fun vs => by kernel_rfl
theorem ok50 : OkS sig (Gd G dep (dep 50)) 50 th50 := fun xs q h => body_ok Try.func50 (c := c50) rfl A50 tw50 (sums_of (C := C50) (t := ST50) ⟨sum_in (c' := .loop b50o0) (by kernel_rfl) (o50o0), trivial⟩) r50 (by rw [← tpw50]; exact opt_gOf h)
noncomputable def C16 := mkC 16
noncomputable def c16 := Try.f16.body.getD .skip
def ST16 : LT := []
theorem r16 : Rp tw16 C16 ST16 Try.f16 (sig 16) c16 A16 := fun vs => by kernel_rfl
theorem ok16 : OkS sig (Gd G dep (dep 16)) 16 th16 := fun xs q h => body_ok Try.func16 (c := c16) rfl A16 tw16 (sums_of (C := C16) (t := ST16) trivial) r16 (by rw [← tpw16]; exact opt_gOf h)
noncomputable def C10 := mkC 10
noncomputable def c10 := Try.f10.body.getD .skip
def ST10 : LT := []
theorem r10 : Rp tw10 C10 ST10 Try.f10 (sig 10) c10 A10 := fun vs => by kernel_rfl
theorem ok10 : OkS sig (Gd G dep (dep 10)) 10 th10 := fun xs q h => body_ok Try.func10 (c := c10) rfl A10 tw10 (sums_of (C := C10) (t := ST10) trivial) r10 (by rw [← tpw10]; exact opt_gOf h)
theorem fn_ok : ∀ f ∈ [57, 69, 113, 78, 77, 114, 139, 124, 125, 126, 91, 92, 93, 94, 127, 95, 56, 67, 68, 79, 59, 70, 80, 58, 23, 30, 36, 136, 116, 119, 82, 117, 115, 63, 64, 118, 81, 65, 141, 130, 142, 132, 131, 99, 133, 101, 100, 102, 103, 135, 105, 134, 104, 66, 25, 37, 143, 137, 120, 83, 42, 84, 43, 121, 85, 44, 14, 86, 87, 51, 45, 46, 47, 15, 88, 52, 48, 49, 50, 16, 10], FnOk Try.prog sig f := fun f h => fnOk_of (List.all_eq_true.1 (show [57, 69, 113, 78, 77, 114, 139, 124, 125, 126, 91, 92, 93, 94, 127, 95, 56, 67, 68, 79, 59, 70, 80, 58, 23, 30, 36, 136, 116, 119, 82, 117, 115, 63, 64, 118, 81, 65, 141, 130, 142, 132, 131, 99, 133, 101, 100, 102, 103, 135, 105, 134, 104, 66, 25, 37, 143, 137, 120, 83, 42, 84, 43, 121, 85, 44, 14, 86, 87, 51, 45, 46, 47, 15, 88, 52, 48, 49, 50, 16, 10].all (fnOkB Try.prog sig) = true by kernel_rfl) f h)
theorem all_ok : AllG (fun f xs q => FnOk Try.prog sig f ∧ evalBody Try.prog sig (Gd G dep (dep f)) KK f xs = some q) gT :=
  ⟨fun xs q h => ⟨fn_ok 57 (by simp), ok57 xs q h⟩, fun xs q h => ⟨fn_ok 69 (by simp), ok69 xs q h⟩, fun xs q h => ⟨fn_ok 113 (by simp), ok113 xs q h⟩, fun xs q h => ⟨fn_ok 78 (by simp), ok78 xs q h⟩, fun xs q h => ⟨fn_ok 77 (by simp), ok77 xs q h⟩, fun xs q h => ⟨fn_ok 114 (by simp), ok114 xs q h⟩, fun xs q h => ⟨fn_ok 139 (by simp), ok139 xs q h⟩, fun xs q h => ⟨fn_ok 124 (by simp), ok124 xs q h⟩, fun xs q h => ⟨fn_ok 125 (by simp), ok125 xs q h⟩, fun xs q h => ⟨fn_ok 126 (by simp), ok126 xs q h⟩, fun xs q h => ⟨fn_ok 91 (by simp), ok91 xs q h⟩, fun xs q h => ⟨fn_ok 92 (by simp), ok92 xs q h⟩, fun xs q h => ⟨fn_ok 93 (by simp), ok93 xs q h⟩, fun xs q h => ⟨fn_ok 94 (by simp), ok94 xs q h⟩, fun xs q h => ⟨fn_ok 127 (by simp), ok127 xs q h⟩, fun xs q h => ⟨fn_ok 95 (by simp), ok95 xs q h⟩, fun xs q h => ⟨fn_ok 56 (by simp), ok56 xs q h⟩, fun xs q h => ⟨fn_ok 67 (by simp), ok67 xs q h⟩, fun xs q h => ⟨fn_ok 68 (by simp), ok68 xs q h⟩, fun xs q h => ⟨fn_ok 79 (by simp), ok79 xs q h⟩, fun xs q h => ⟨fn_ok 59 (by simp), ok59 xs q h⟩, fun xs q h => ⟨fn_ok 70 (by simp), ok70 xs q h⟩, fun xs q h => ⟨fn_ok 80 (by simp), ok80 xs q h⟩, fun xs q h => ⟨fn_ok 58 (by simp), ok58 xs q h⟩, fun xs q h => ⟨fn_ok 23 (by simp), ok23 xs q h⟩, fun xs q h => ⟨fn_ok 30 (by simp), ok30 xs q h⟩, fun xs q h => ⟨fn_ok 36 (by simp), ok36 xs q h⟩, fun xs q h => ⟨fn_ok 136 (by simp), ok136 xs q h⟩, fun xs q h => ⟨fn_ok 116 (by simp), ok116 xs q h⟩, fun xs q h => ⟨fn_ok 119 (by simp), ok119 xs q h⟩, fun xs q h => ⟨fn_ok 82 (by simp), ok82 xs q h⟩, fun xs q h => ⟨fn_ok 117 (by simp), ok117 xs q h⟩, fun xs q h => ⟨fn_ok 115 (by simp), ok115 xs q h⟩, fun xs q h => ⟨fn_ok 63 (by simp), ok63 xs q h⟩, fun xs q h => ⟨fn_ok 64 (by simp), ok64 xs q h⟩, fun xs q h => ⟨fn_ok 118 (by simp), ok118 xs q h⟩, fun xs q h => ⟨fn_ok 81 (by simp), ok81 xs q h⟩, fun xs q h => ⟨fn_ok 65 (by simp), ok65 xs q h⟩, fun xs q h => ⟨fn_ok 141 (by simp), ok141 xs q h⟩, fun xs q h => ⟨fn_ok 130 (by simp), ok130 xs q h⟩, fun xs q h => ⟨fn_ok 142 (by simp), ok142 xs q h⟩, fun xs q h => ⟨fn_ok 132 (by simp), ok132 xs q h⟩, fun xs q h => ⟨fn_ok 131 (by simp), ok131 xs q h⟩, fun xs q h => ⟨fn_ok 99 (by simp), ok99 xs q h⟩, fun xs q h => ⟨fn_ok 133 (by simp), ok133 xs q h⟩, fun xs q h => ⟨fn_ok 101 (by simp), ok101 xs q h⟩, fun xs q h => ⟨fn_ok 100 (by simp), ok100 xs q h⟩, fun xs q h => ⟨fn_ok 102 (by simp), ok102 xs q h⟩, fun xs q h => ⟨fn_ok 103 (by simp), ok103 xs q h⟩, fun xs q h => ⟨fn_ok 135 (by simp), ok135 xs q h⟩, fun xs q h => ⟨fn_ok 105 (by simp), ok105 xs q h⟩, fun xs q h => ⟨fn_ok 134 (by simp), ok134 xs q h⟩, fun xs q h => ⟨fn_ok 104 (by simp), ok104 xs q h⟩, fun xs q h => ⟨fn_ok 66 (by simp), ok66 xs q h⟩, fun xs q h => ⟨fn_ok 25 (by simp), ok25 xs q h⟩, fun xs q h => ⟨fn_ok 37 (by simp), ok37 xs q h⟩, fun xs q h => ⟨fn_ok 143 (by simp), ok143 xs q h⟩, fun xs q h => ⟨fn_ok 137 (by simp), ok137 xs q h⟩, fun xs q h => ⟨fn_ok 120 (by simp), ok120 xs q h⟩, fun xs q h => ⟨fn_ok 83 (by simp), ok83 xs q h⟩, fun xs q h => ⟨fn_ok 42 (by simp), ok42 xs q h⟩, fun xs q h => ⟨fn_ok 84 (by simp), ok84 xs q h⟩, fun xs q h => ⟨fn_ok 43 (by simp), ok43 xs q h⟩, fun xs q h => ⟨fn_ok 121 (by simp), ok121 xs q h⟩, fun xs q h => ⟨fn_ok 85 (by simp), ok85 xs q h⟩, fun xs q h => ⟨fn_ok 44 (by simp), ok44 xs q h⟩, fun xs q h => ⟨fn_ok 14 (by simp), ok14 xs q h⟩, fun xs q h => ⟨fn_ok 86 (by simp), ok86 xs q h⟩, fun xs q h => ⟨fn_ok 87 (by simp), ok87 xs q h⟩, fun xs q h => ⟨fn_ok 51 (by simp), ok51 xs q h⟩, fun xs q h => ⟨fn_ok 45 (by simp), ok45 xs q h⟩, fun xs q h => ⟨fn_ok 46 (by simp), ok46 xs q h⟩, fun xs q h => ⟨fn_ok 47 (by simp), ok47 xs q h⟩, fun xs q h => ⟨fn_ok 15 (by simp), ok15 xs q h⟩, fun xs q h => ⟨fn_ok 88 (by simp), ok88 xs q h⟩, fun xs q h => ⟨fn_ok 52 (by simp), ok52 xs q h⟩, fun xs q h => ⟨fn_ok 48 (by simp), ok48 xs q h⟩, fun xs q h => ⟨fn_ok 49 (by simp), ok49 xs q h⟩, fun xs q h => ⟨fn_ok 50 (by simp), ok50 xs q h⟩, fun xs q h => ⟨fn_ok 16 (by simp), ok16 xs q h⟩, fun xs q h => ⟨fn_ok 10 (by simp), ok10 xs q h⟩, trivial⟩
theorem G_ok (f : Nat) : SpecOk Try.prog (sig f) (fun xs => opt (G f xs)) f := G_spec (by kernel_rfl) (allG_of all_ok) f
end
end Go.Den.L10
