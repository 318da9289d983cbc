/- The functions' table, and that each is what its twin says. Printed by tw.py. -/
import Derived.Test.YtmnplpijeakjiaaGreatL4Tw
import Derived.Test.YtmnplpijeakjiaaGreatProg
import Derived.KernelRfl
set_option linter.unusedVariables false
namespace Go.Den.L4
open Go Go.Proofs
noncomputable section
set_option maxRecDepth 100000
def U {α:Type} (a:α):α:=Classical.choose (⟨a,rfl⟩:∃f,f=a)
theorem U_eq {α:Type} (a:α):U a=a:=Classical.choose_spec (⟨a,rfl⟩:∃f,f=a)
abbrev dI:TV:=.d (.i .i64)
abbrev dB:TV:=.d .b
abbrev dS:TV:=.d .s
abbrev dL:TV:=.d .l
def bx0:TB:=.box [.nils,.nils,.nils,.nils,dB]
def bx1:TB:=.box [.own 16385,.nils,.nils,.nils,dB]
def bx2:TB:=.box [dI,dI,dI,dI,dI,dI,dI,dI,dL,dI,dL,dL,dL]
def bx3:TB:=.box [dI,dI,dI,dI,dS,.nils]
def bx4:TB:=.box [dI,dI,dI,dI,dS,.own 16390]
def bx5:TB:=.box [dI,dI,dI,dI,dS,dL,dL]
def bx6:TB:=.box [dI,dI,dI,dI,dS,dL]
def ag0:TV:=.agg [dI,dI,dI,dI,dI,dI,dI,dI,dL,dI,dL,dL,dL]
def ag1:TV:=.agg [dI,dI,dI,dI,dS,dL,dL]
def ag2:TV:=.agg [dI,dI,dI,dI,dS,dL]
abbrev KT:=Cont (List DV × List (List D))
def dr (a n:Nat):List (Nat × Nat × List Nat):=(List.range n).map fun i=>(a+i,0,[])
abbrev LT:=List (Nat × (St→KT→Rs))
def Qp (L:Nat→List Vr→KT→Rs) (C:Ctx) (S:LT) (b:Code) (n:Nat) (T:TSt):Prop:=∀m w K,L (m+1) w K=denK C (lkS S) b n (fillS T w) (loopK C T (L m) K)
abbrev jB (w:List Vr) (n:Nat):Vr:=.b (vB w n)
abbrev jI (w:List Vr) (n:Nat):Vr:=.i (vI w n)
abbrev jS (w:List Vr) (n:Nat):Vr:=.s (vS w n)
abbrev jL (w:List Vr) (n:Nat):Vr:=.l (vL w n)
abbrev jN (w:List Vr) (n:Nat):Vr:=.n (vN w n)
abbrev jV (w:List Vr) (n:Nat):Vr:=.v (vV w n)
def OkS (sig:Nat→Sig) (g:Nat→List DV→Bool × List DV × List (List D)) (f:Nat) (th:List DV→Bool × List DV × List (List D)):Prop:=∀xs q,opt (th xs)=some q→evalBody Tryz.prog sig g KK f xs=some q
def tu34:=U t34
theorem ue34:tu34=t34:=U_eq _
theorem te34:t34=t34:=rfl
def v34 (f:Y34) (w:List Vr):Rs:=f (vI w 0) (vI w 1) (vI w 2)
def th34:=fun xs=>gOf zr34 zo34 (argsT A34 (v34 tu34) xs)
def tu15:=U t15
theorem ue15:tu15=t15:=U_eq _
theorem te15:t15=t15:=rfl
def v15 (f:Y15) (w:List Vr):Rs:=f
def th15:=fun xs=>gOf zr15 zo15 (argsT A15 (v15 tu15) xs)
def tu108:=U t108
theorem ue108:tu108=t108:=U_eq _
theorem te108:ta108 tu34=t108:=by rw [ue34];rfl
def v108 (f:Y108) (w:List Vr):Rs:=f (vI w 0) (vI w 1)
def th108:=fun xs=>gOf zr108 zo108 (argsT A108 (v108 tu108) xs)
def tu81:=U t81
theorem ue81:tu81=t81:=U_eq _
theorem te81:ta81 tu34 tu108=t81:=by rw [ue34,ue108];rfl
def v81 (f:Y81) (w:List Vr):Rs:=f (vI w 0) (vI w 1) (vI w 2) (vI w 3) (vS w 4) (vL w 5)
def th81:=fun xs=>gOf zr81 zo81 (argsT A81 (v81 tu81) xs)
def tu109:=U t109
theorem ue109:tu109=t109:=U_eq _
theorem te109:t109=t109:=rfl
def v109 (f:Y109) (w:List Vr):Rs:=f (vI w 0) (vI w 1) (vI w 2) (vI w 3) (vS w 4) (vL w 5)
def th109:=fun xs=>gOf zr109 zo109 (argsT A109 (v109 tu109) xs)
def tu137:=U t137
theorem ue137:tu137=t137:=U_eq _
theorem te137:ta137 tu34=t137:=by rw [ue34];rfl
def v137 (f:Y137) (w:List Vr):Rs:=f (vI w 0) (vI w 1) (vI w 2) (vI w 3) (vS w 4)
def th137:=fun xs=>gOf zr137 zo137 (argsT A137 (v137 tu137) xs)
def tu164:=U t164
theorem ue164:tu164=t164:=U_eq _
theorem te164:t164=t164:=rfl
def v164 (f:Y164) (w:List Vr):Rs:=f (vI w 0) (vI w 1) (vI w 2) (vI w 3) (vS w 4) (vL w 5)
def th164:=fun xs=>gOf zr164 zo164 (argsT A164 (v164 tu164) xs)
def tu138:=U t138
theorem ue138:tu138=t138:=U_eq _
theorem te138:ta138 tu164=t138:=by rw [ue164];rfl
def v138 (f:Y138) (w:List Vr):Rs:=f (vI w 0) (vI w 1) (vI w 2) (vI w 3) (vS w 4) (vL w 5) (vI w 6) (vI w 7) (vI w 8) (vI w 9) (vS w 10)
def th138:=fun xs=>gOf zr138 zo138 (argsT A138 (v138 tu138) xs)
def tu139:=U t139
theorem ue139:tu139=t139:=U_eq _
theorem te139:t139=t139:=rfl
def v139 (f:Y139) (w:List Vr):Rs:=f (vI w 0) (vI w 1) (vI w 2) (vI w 3) (vS w 4) (vL w 5) (vI w 6) (vI w 7)
def th139:=fun xs=>gOf zr139 zo139 (argsT A139 (v139 tu139) xs)
def tu110:=U t110
theorem ue110:tu110=t110:=U_eq _
theorem te110:ta110 tu137 tu138 tu139=t110:=by rw [ue137,ue138,ue139];rfl
def v110 (f:Y110) (w:List Vr):Rs:=f (vI w 0) (vI w 1) (vI w 2) (vI w 3) (vS w 4) (vL w 5) (vI w 6) (vI w 7) (vI w 8) (vI w 9) (vS w 10)
def th110:=fun xs=>gOf zr110 zo110 (argsT A110 (v110 tu110) xs)
def tu82:=U t82
theorem ue82:tu82=t82:=U_eq _
theorem te82:ta82 tu109 tu110=t82:=by rw [ue109,ue110];rfl
def v82 (f:Y82) (w:List Vr):Rs:=f (vI w 0) (vI w 1) (vI w 2) (vI w 3) (vS w 4) (vL w 5) (vL w 6) (vI w 7)
def th82:=fun xs=>gOf zr82 zo82 (argsT A82 (v82 tu82) xs)
def tu47:=U t47
theorem ue47:tu47=t47:=U_eq _
theorem te47:ta47 tu81 tu82=t47:=by rw [ue81,ue82];rfl
def v47 (f:Y47) (w:List Vr):Rs:=f (vI w 0) (vI w 1) (vI w 2) (vI w 3) (vS w 4) (vL w 5) (vL w 6)
def th47:=fun xs=>gOf zr47 zo47 (argsT A47 (v47 tu47) xs)
def tu48:=U t48
theorem ue48:tu48=t48:=U_eq _
theorem te48:t48=t48:=rfl
def v48 (f:Y48) (w:List Vr):Rs:=f (vI w 0) (vI w 1) (vI w 2) (vI w 3) (vI w 4) (vI w 5) (vI w 6) (vI w 7) (vL w 8) (vI w 9) (vL w 10) (vL w 11) (vL w 12)
def th48:=fun xs=>gOf zr48 zo48 (argsT A48 (v48 tu48) xs)
def tu54:=U t54
theorem ue54:tu54=t54:=U_eq _
theorem te54:t54=t54:=rfl
def v54 (f:Y54) (w:List Vr):Rs:=f (vI w 0) (vI w 1) (vI w 2) (vI w 3) (vI w 4) (vI w 5) (vI w 6) (vI w 7) (vL w 8) (vI w 9) (vL w 10) (vL w 11) (vL w 12) (vS w 13)
def th54:=fun xs=>gOf zr54 zo54 (argsT A54 (v54 tu54) xs)
def tu83:=U t83
theorem ue83:tu83=t83:=U_eq _
theorem te83:t83=t83:=rfl
def v83 (f:Y83) (w:List Vr):Rs:=f (vI w 0) (vI w 1) (vI w 2) (vI w 3) (vI w 4) (vI w 5) (vI w 6) (vI w 7) (vL w 8) (vI w 9) (vL w 10) (vL w 11) (vL w 12)
def th83:=fun xs=>gOf zr83 zo83 (argsT A83 (v83 tu83) xs)
def tu84:=U t84
theorem ue84:tu84=t84:=U_eq _
theorem te84:t84=t84:=rfl
def v84 (f:Y84) (w:List Vr):Rs:=f (vL w 0) (vI w 1)
def th84:=fun xs=>gOf zr84 zo84 (argsT A84 (v84 tu84) xs)
def tu49:=U t49
theorem ue49:tu49=t49:=U_eq _
theorem te49:ta49 tu34 tu54 tu81 tu83 tu84=t49:=by rw [ue34,ue54,ue81,ue83,ue84];rfl
def v49 (f:Y49) (w:List Vr):Rs:=f (vI w 0) (vI w 1) (vI w 2) (vI w 3) (vI w 4) (vI w 5) (vI w 6) (vI w 7) (vL w 8) (vI w 9) (vL w 10) (vL w 11) (vL w 12)
def th49:=fun xs=>gOf zr49 zo49 (argsT A49 (v49 tu49) xs)
def tu50:=U t50
theorem ue50:tu50=t50:=U_eq _
theorem te50:t50=t50:=rfl
def v50 (f:Y50) (w:List Vr):Rs:=f (vL w 0)
def th50:=fun xs=>gOf zr50 zo50 (argsT A50 (v50 tu50) xs)
def tu51:=U t51
theorem ue51:tu51=t51:=U_eq _
theorem te51:t51=t51:=rfl
def v51 (f:Y51) (w:List Vr):Rs:=f (vS w 0)
def th51:=fun xs=>gOf zr51 zo51 (argsT A51 (v51 tu51) xs)
def tu52:=U t52
theorem ue52:tu52=t52:=U_eq _
theorem te52:t52=t52:=rfl
def v52 (f:Y52) (w:List Vr):Rs:=f (vL w 0) (vI w 1)
def th52:=fun xs=>gOf zr52 zo52 (argsT A52 (v52 tu52) xs)
def tu53:=U t53
theorem ue53:tu53=t53:=U_eq _
theorem te53:t53=t53:=rfl
def v53 (f:Y53) (w:List Vr):Rs:=f (vI w 0) (vI w 1) (vI w 2) (vI w 3) (vS w 4) (vL w 5) (vI w 6) (vI w 7) (vI w 8) (vI w 9) (vS w 10) (vL w 11)
def th53:=fun xs=>gOf zr53 zo53 (argsT A53 (v53 tu53) xs)
def tu16:=U t16
theorem ue16:tu16=t16:=U_eq _
theorem te16:ta16 tu34 tu47 tu48 tu49 tu50 tu51 tu52 tu53 tu54=t16:=by rw [ue34,ue47,ue48,ue49,ue50,ue51,ue52,ue53,ue54];rfl
def v16 (f:Y16) (w:List Vr):Rs:=f (vI w 0) (vI w 1) (vB w 2) (vI w 3) (vI w 4) (vI w 5) (vI w 6) (vI w 7) (vI w 8) (vI w 9) (vI w 10) (vL w 11) (vI w 12) (vL w 13) (vL w 14) (vL w 15) (vL w 16) (vI w 17) (vI w 18) (vS w 19) (vI w 20) (vI w 21) (vI w 22) (vI w 23) (vS w 24) (vL w 25) (vL w 26) (vL w 27) (vI w 28) (vI w 29)
def th16:=fun xs=>gOf zr16 zo16 (argsT A16 (v16 tu16) xs)
def tu55:=U t55
theorem ue55:tu55=t55:=U_eq _
theorem te55:ta55 tu49 tu81=t55:=by rw [ue49,ue81];rfl
def v55 (f:Y55) (w:List Vr):Rs:=f (vI w 0) (vI w 1) (vI w 2) (vI w 3) (vI w 4) (vI w 5) (vS w 6) (vL w 7)
def th55:=fun xs=>gOf zr55 zo55 (argsT A55 (v55 tu55) xs)
def tu120:=U t120
theorem ue120:tu120=t120:=U_eq _
theorem te120:t120=t120:=rfl
def v120 (f:Y120) (w:List Vr):Rs:=f
def th120:=fun xs=>gOf zr120 zo120 (argsT A120 (v120 tu120) xs)
def tu91:=U t91
theorem ue91:tu91=t91:=U_eq _
theorem te91:ta91 tu120=t91:=by rw [ue120];rfl
def v91 (f:Y91) (w:List Vr):Rs:=f
def th91:=fun xs=>gOf zr91 zo91 (argsT A91 (v91 tu91) xs)
def tu56:=U t56
theorem ue56:tu56=t56:=U_eq _
theorem te56:ta56 tu91=t56:=by rw [ue91];rfl
def v56 (f:Y56) (w:List Vr):Rs:=f
def th56:=fun xs=>gOf zr56 zo56 (argsT A56 (v56 tu56) xs)
def tu17:=U t17
theorem ue17:tu17=t17:=U_eq _
theorem te17:ta17 tu51 tu55 tu56=t17:=by rw [ue51,ue55,ue56];rfl
def v17 (f:Y17) (w:List Vr):Rs:=f (vI w 0) (vI w 1) (vB w 2) (vI w 3) (vI w 4) (vI w 5) (vI w 6) (vI w 7) (vI w 8) (vI w 9) (vI w 10) (vL w 11) (vI w 12) (vL w 13) (vL w 14) (vL w 15) (vL w 16) (vI w 17) (vI w 18) (vS w 19) (vI w 20) (vI w 21) (vI w 22) (vI w 23) (vS w 24) (vL w 25) (vL w 26) (vL w 27) (vI w 28) (vI w 29)
def th17:=fun xs=>gOf zr17 zo17 (argsT A17 (v17 tu17) xs)
def tu5:=U t5
theorem ue5:tu5=t5:=U_eq _
theorem te5:ta5 tu15 tu16 tu17=t5:=by rw [ue15,ue16,ue17];rfl
def v5 (f:Y5) (w:List Vr):Rs:=f (vI w 0) (vI w 1)
def th5:=fun xs=>gOf zr5 zo5 (argsT A5 (v5 tu5) xs)
def tu10:=U t10
theorem ue10:tu10=t10:=U_eq _
theorem te10:ta10 tu5 tu34=t10:=by rw [ue5,ue34];rfl
def v10 (f:Y10) (w:List Vr):Rs:=f (vI w 0)
def th10:=fun xs=>gOf zr10 zo10 (argsT A10 (v10 tu10) xs)
def tu18:=U t18
theorem ue18:tu18=t18:=U_eq _
theorem te18:t18=t18:=rfl
def v18 (f:Y18) (w:List Vr):Rs:=f (vI w 0) (vI w 1) (vI w 2)
def th18:=fun xs=>gOf zr18 zo18 (argsT A18 (v18 tu18) xs)
def tu20:=U t20
theorem ue20:tu20=t20:=U_eq _
theorem te20:t20=t20:=rfl
def v20 (f:Y20) (w:List Vr):Rs:=f
def th20:=fun xs=>gOf zr20 zo20 (argsT A20 (v20 tu20) xs)
def tu130:=U t130
theorem ue130:tu130=t130:=U_eq _
theorem te130:ta130 tu18=t130:=by rw [ue18];rfl
def v130 (f:Y130) (w:List Vr):Rs:=f (vI w 0) (vI w 1) (vI w 2) (vI w 3) (vS w 4) (vL w 5)
def th130:=fun xs=>gOf zr130 zo130 (argsT A130 (v130 tu130) xs)
def tu129:=U t129
theorem ue129:tu129=t129:=U_eq _
theorem te129:t129=t129:=rfl
def v129 (f:Y129) (w:List Vr):Rs:=f (vI w 0) (vI w 1) (vI w 2) (vI w 3) (vS w 4) (vL w 5)
def th129:=fun xs=>gOf zr129 zo129 (argsT A129 (v129 tu129) xs)
def tu169:=U t169
theorem ue169:tu169=t169:=U_eq _
theorem te169:ta169 tu18=t169:=by rw [ue18];rfl
def v169 (f:Y169) (w:List Vr):Rs:=f (vI w 0) (vI w 1) (vI w 2) (vI w 3) (vS w 4)
def th169:=fun xs=>gOf zr169 zo169 (argsT A169 (v169 tu169) xs)
def tu183:=U t183
theorem ue183:tu183=t183:=U_eq _
theorem te183:t183=t183:=rfl
def v183 (f:Y183) (w:List Vr):Rs:=f (vI w 0) (vI w 1) (vI w 2) (vI w 3) (vS w 4) (vL w 5)
def th183:=fun xs=>gOf zr183 zo183 (argsT A183 (v183 tu183) xs)
def tu170:=U t170
theorem ue170:tu170=t170:=U_eq _
theorem te170:ta170 tu18 tu183=t170:=by rw [ue18,ue183];rfl
def v170 (f:Y170) (w:List Vr):Rs:=f (vI w 0) (vI w 1) (vI w 2) (vI w 3) (vS w 4) (vL w 5) (vI w 6) (vI w 7) (vI w 8) (vI w 9) (vS w 10)
def th170:=fun xs=>gOf zr170 zo170 (argsT A170 (v170 tu170) xs)
def tu150:=U t150
theorem ue150:tu150=t150:=U_eq _
theorem te150:ta150 tu169 tu170=t150:=by rw [ue169,ue170];rfl
def v150 (f:Y150) (w:List Vr):Rs:=f (vI w 0) (vI w 1) (vI w 2) (vI w 3) (vS w 4) (vL w 5) (vI w 6) (vI w 7) (vI w 8) (vI w 9) (vS w 10)
def th150:=fun xs=>gOf zr150 zo150 (argsT A150 (v150 tu150) xs)
def tu121:=U t121
theorem ue121:tu121=t121:=U_eq _
theorem te121:ta121 tu129 tu130 tu150=t121:=by rw [ue129,ue130,ue150];rfl
def v121 (f:Y121) (w:List Vr):Rs:=f (vI w 0) (vI w 1) (vI w 2) (vI w 3) (vS w 4) (vL w 5) (vL w 6)
def th121:=fun xs=>gOf zr121 zo121 (argsT A121 (v121 tu121) xs)
def tu92:=U t92
theorem ue92:tu92=t92:=U_eq _
theorem te92:ta92 tu121=t92:=by rw [ue121];rfl
def v92 (f:Y92) (w:List Vr):Rs:=f (vI w 0) (vI w 1) (vI w 2) (vI w 3) (vS w 4) (vL w 5) (vL w 6)
def th92:=fun xs=>gOf zr92 zo92 (argsT A92 (v92 tu92) xs)
def tu93:=U t93
theorem ue93:tu93=t93:=U_eq _
theorem te93:t93=t93:=rfl
def v93 (f:Y93) (w:List Vr):Rs:=f (vI w 0) (vI w 1) (vB w 2) (vI w 3) (vI w 4) (vI w 5) (vI w 6) (vI w 7) (vI w 8) (vI w 9) (vI w 10) (vL w 11) (vI w 12) (vL w 13) (vL w 14) (vL w 15) (vL w 16) (vI w 17) (vI w 18) (vS w 19) (vI w 20) (vI w 21) (vI w 22) (vI w 23) (vS w 24) (vL w 25) (vL w 26) (vL w 27) (vI w 28) (vI w 29)
def th93:=fun xs=>gOf zr93 zo93 (argsT A93 (v93 tu93) xs)
def tu94:=U t94
theorem ue94:tu94=t94:=U_eq _
theorem te94:t94=t94:=rfl
def v94 (f:Y94) (w:List Vr):Rs:=f (vI w 0) (vI w 1) (vI w 2) (vI w 3) (vI w 4) (vI w 5) (vI w 6) (vI w 7) (vL w 8) (vI w 9) (vL w 10) (vL w 11) (vL w 12)
def th94:=fun xs=>gOf zr94 zo94 (argsT A94 (v94 tu94) xs)
def tu57:=U t57
theorem ue57:tu57=t57:=U_eq _
theorem te57:ta57 tu18 tu92 tu93 tu94=t57:=by rw [ue18,ue92,ue93,ue94];rfl
def v57 (f:Y57) (w:List Vr):Rs:=f (vI w 0) (vI w 1) (vB w 2) (vI w 3) (vI w 4) (vI w 5) (vI w 6) (vI w 7) (vI w 8) (vI w 9) (vI w 10) (vL w 11) (vI w 12) (vL w 13) (vL w 14) (vL w 15) (vL w 16) (vI w 17) (vI w 18) (vS w 19) (vI w 20) (vI w 21) (vI w 22) (vI w 23) (vS w 24) (vL w 25) (vL w 26) (vL w 27) (vI w 28) (vI w 29)
def th57:=fun xs=>gOf zr57 zo57 (argsT A57 (v57 tu57) xs)
def tu127:=U t127
theorem ue127:tu127=t127:=U_eq _
theorem te127:t127=t127:=rfl
def v127 (f:Y127) (w:List Vr):Rs:=f (vL w 0)
def th127:=fun xs=>gOf zr127 zo127 (argsT A127 (v127 tu127) xs)
def tu95:=U t95
theorem ue95:tu95=t95:=U_eq _
theorem te95:ta95 tu127=t95:=by rw [ue127];rfl
def v95 (f:Y95) (w:List Vr):Rs:=f (vI w 0) (vI w 1) (vI w 2) (vI w 3) (vI w 4) (vI w 5) (vI w 6) (vI w 7) (vL w 8) (vI w 9) (vL w 10) (vL w 11) (vL w 12)
def th95:=fun xs=>gOf zr95 zo95 (argsT A95 (v95 tu95) xs)
def tu157:=U t157
theorem ue157:tu157=t157:=U_eq _
theorem te157:t157=t157:=rfl
def v157 (f:Y157) (w:List Vr):Rs:=f (vI w 0) (vL w 1)
def th157:=fun xs=>gOf zr157 zo157 (argsT A157 (v157 tu157) xs)
def tu128:=U t128
theorem ue128:tu128=t128:=U_eq _
theorem te128:ta128 tu157=t128:=by rw [ue157];rfl
def v128 (f:Y128) (w:List Vr):Rs:=f (vI w 0) (vL w 1) (vI w 2) (vL w 3) (vL w 4)
def th128:=fun xs=>gOf zr128 zo128 (argsT A128 (v128 tu128) xs)
def tu96:=U t96
theorem ue96:tu96=t96:=U_eq _
theorem te96:ta96 tu128=t96:=by rw [ue128];rfl
def v96 (f:Y96) (w:List Vr):Rs:=f (vL w 0)
def th96:=fun xs=>gOf zr96 zo96 (argsT A96 (v96 tu96) xs)
def tu97:=U t97
theorem ue97:tu97=t97:=U_eq _
theorem te97:ta97 tu129=t97:=by rw [ue129];rfl
def v97 (f:Y97) (w:List Vr):Rs:=f (vI w 0) (vI w 1) (vI w 2) (vI w 3) (vS w 4) (vL w 5) (vL w 6)
def th97:=fun xs=>gOf zr97 zo97 (argsT A97 (v97 tu97) xs)
def tu58:=U t58
theorem ue58:tu58=t58:=U_eq _
theorem te58:ta58 tu95 tu96 tu97=t58:=by rw [ue95,ue96,ue97];rfl
def v58 (f:Y58) (w:List Vr):Rs:=f (vI w 0) (vI w 1) (vB w 2) (vI w 3) (vI w 4) (vI w 5) (vI w 6) (vI w 7) (vI w 8) (vI w 9) (vI w 10) (vL w 11) (vI w 12) (vL w 13) (vL w 14) (vL w 15) (vL w 16) (vI w 17) (vI w 18) (vS w 19) (vI w 20) (vI w 21) (vI w 22) (vI w 23) (vS w 24) (vL w 25) (vL w 26) (vL w 27) (vI w 28) (vI w 29)
def th58:=fun xs=>gOf zr58 zo58 (argsT A58 (v58 tu58) xs)
def tu125:=U t125
theorem ue125:tu125=t125:=U_eq _
theorem te125:t125=t125:=rfl
def v125 (f:Y125) (w:List Vr):Rs:=f (vI w 0) (vI w 1) (vI w 2) (vI w 3) (vI w 4) (vI w 5) (vI w 6) (vI w 7) (vL w 8) (vI w 9) (vL w 10) (vL w 11) (vL w 12) (vS w 13)
def th125:=fun xs=>gOf zr125 zo125 (argsT A125 (v125 tu125) xs)
def tu151:=U t151
theorem ue151:tu151=t151:=U_eq _
theorem te151:t151=t151:=rfl
def v151 (f:Y151) (w:List Vr):Rs:=f (vI w 0) (vI w 1) (vI w 2) (vI w 3) (vI w 4) (vI w 5) (vI w 6) (vI w 7) (vL w 8) (vI w 9) (vL w 10) (vL w 11) (vL w 12)
def th151:=fun xs=>gOf zr151 zo151 (argsT A151 (v151 tu151) xs)
def tu184:=U t184
theorem ue184:tu184=t184:=U_eq _
theorem te184:t184=t184:=rfl
def v184 (f:Y184) (w:List Vr):Rs:=f (vL w 0) (vI w 1)
def th184:=fun xs=>gOf zr184 zo184 (argsT A184 (v184 tu184) xs)
def tu171:=U t171
theorem ue171:tu171=t171:=U_eq _
theorem te171:ta171 tu184=t171:=by rw [ue184];rfl
def v171 (f:Y171) (w:List Vr):Rs:=f (vL w 0) (vI w 1)
def th171:=fun xs=>gOf zr171 zo171 (argsT A171 (v171 tu171) xs)
def tu172:=U t172
theorem ue172:tu172=t172:=U_eq _
theorem te172:t172=t172:=rfl
def v172 (f:Y172) (w:List Vr):Rs:=f (vI w 0) (vI w 1) (vI w 2) (vI w 3) (vI w 4) (vI w 5) (vI w 6) (vI w 7) (vL w 8) (vI w 9) (vL w 10) (vL w 11) (vL w 12) (vI w 13)
def th172:=fun xs=>gOf zr172 zo172 (argsT A172 (v172 tu172) xs)
def tu152:=U t152
theorem ue152:tu152=t152:=U_eq _
theorem te152:ta152 tu18 tu171 tu172=t152:=by rw [ue18,ue171,ue172];rfl
def v152 (f:Y152) (w:List Vr):Rs:=f (vI w 0) (vI w 1) (vI w 2) (vI w 3) (vI w 4) (vI w 5) (vI w 6) (vI w 7) (vL w 8) (vI w 9) (vL w 10) (vL w 11) (vL w 12)
def th152:=fun xs=>gOf zr152 zo152 (argsT A152 (v152 tu152) xs)
def tu153:=U t153
theorem ue153:tu153=t153:=U_eq _
theorem te153:ta153 tu151=t153:=by rw [ue151];rfl
def v153 (f:Y153) (w:List Vr):Rs:=f (vI w 0) (vI w 1) (vI w 2) (vI w 3) (vI w 4) (vI w 5) (vI w 6) (vI w 7) (vL w 8) (vI w 9) (vL w 10) (vL w 11) (vL w 12)
def th153:=fun xs=>gOf zr153 zo153 (argsT A153 (v153 tu153) xs)
def tu122:=U t122
theorem ue122:tu122=t122:=U_eq _
theorem te122:ta122 tu18 tu125 tu130 tu151 tu152 tu153=t122:=by rw [ue18,ue125,ue130,ue151,ue152,ue153];rfl
def v122 (f:Y122) (w:List Vr):Rs:=f (vI w 0) (vI w 1) (vI w 2) (vI w 3) (vI w 4) (vI w 5) (vI w 6) (vI w 7) (vL w 8) (vI w 9) (vL w 10) (vL w 11) (vL w 12)
def th122:=fun xs=>gOf zr122 zo122 (argsT A122 (v122 tu122) xs)
def tu98:=U t98
theorem ue98:tu98=t98:=U_eq _
theorem te98:ta98 tu122 tu130=t98:=by rw [ue122,ue130];rfl
def v98 (f:Y98) (w:List Vr):Rs:=f (vI w 0) (vI w 1) (vI w 2) (vI w 3) (vI w 4) (vI w 5) (vS w 6) (vL w 7)
def th98:=fun xs=>gOf zr98 zo98 (argsT A98 (v98 tu98) xs)
def tu158:=U t158
theorem ue158:tu158=t158:=U_eq _
theorem te158:t158=t158:=rfl
def v158 (f:Y158) (w:List Vr):Rs:=f
def th158:=fun xs=>gOf zr158 zo158 (argsT A158 (v158 tu158) xs)
def tu131:=U t131
theorem ue131:tu131=t131:=U_eq _
theorem te131:ta131 tu158=t131:=by rw [ue158];rfl
def v131 (f:Y131) (w:List Vr):Rs:=f
def th131:=fun xs=>gOf zr131 zo131 (argsT A131 (v131 tu131) xs)
def tu99:=U t99
theorem ue99:tu99=t99:=U_eq _
theorem te99:ta99 tu131=t99:=by rw [ue131];rfl
def v99 (f:Y99) (w:List Vr):Rs:=f
def th99:=fun xs=>gOf zr99 zo99 (argsT A99 (v99 tu99) xs)
def tu100:=U t100
theorem ue100:tu100=t100:=U_eq _
theorem te100:t100=t100:=rfl
def v100 (f:Y100) (w:List Vr):Rs:=f (vS w 0)
def th100:=fun xs=>gOf zr100 zo100 (argsT A100 (v100 tu100) xs)
def tu59:=U t59
theorem ue59:tu59=t59:=U_eq _
theorem te59:ta59 tu98 tu99 tu100=t59:=by rw [ue98,ue99,ue100];rfl
def v59 (f:Y59) (w:List Vr):Rs:=f (vI w 0) (vI w 1) (vB w 2) (vI w 3) (vI w 4) (vI w 5) (vI w 6) (vI w 7) (vI w 8) (vI w 9) (vI w 10) (vL w 11) (vI w 12) (vL w 13) (vL w 14) (vL w 15) (vL w 16) (vI w 17) (vI w 18) (vS w 19) (vI w 20) (vI w 21) (vI w 22) (vI w 23) (vS w 24) (vL w 25) (vL w 26) (vL w 27) (vI w 28) (vI w 29)
def th59:=fun xs=>gOf zr59 zo59 (argsT A59 (v59 tu59) xs)
def tu19:=U t19
theorem ue19:tu19=t19:=U_eq _
theorem te19:ta19 tu57 tu58 tu59=t19:=by rw [ue57,ue58,ue59];rfl
def v19 (f:Y19) (w:List Vr):Rs:=f (vI w 0) (vI w 1) (vB w 2) (vI w 3) (vI w 4) (vI w 5) (vI w 6) (vI w 7) (vI w 8) (vI w 9) (vI w 10) (vL w 11) (vI w 12) (vL w 13) (vL w 14) (vL w 15) (vL w 16) (vI w 17) (vI w 18) (vS w 19) (vI w 20) (vI w 21) (vI w 22) (vI w 23) (vS w 24) (vL w 25) (vL w 26) (vL w 27) (vI w 28) (vI w 29)
def th19:=fun xs=>gOf zr19 zo19 (argsT A19 (v19 tu19) xs)
def tu6:=U t6
theorem ue6:tu6=t6:=U_eq _
theorem te6:ta6 tu18 tu19 tu20=t6:=by rw [ue18,ue19,ue20];rfl
def v6 (f:Y6) (w:List Vr):Rs:=f (vI w 0) (vI w 1)
def th6:=fun xs=>gOf zr6 zo6 (argsT A6 (v6 tu6) xs)
def tu11:=U t11
theorem ue11:tu11=t11:=U_eq _
theorem te11:ta11 tu6 tu18=t11:=by rw [ue6,ue18];rfl
def v11 (f:Y11) (w:List Vr):Rs:=f (vI w 0)
def th11:=fun xs=>gOf zr11 zo11 (argsT A11 (v11 tu11) xs)
def tu80:=U t80
theorem ue80:tu80=t80:=U_eq _
theorem te80:t80=t80:=rfl
def v80 (f:Y80) (w:List Vr):Rs:=f (vI w 0) (vS w 1) (vI w 2) (vS w 3)
def th80:=fun xs=>gOf zr80 zo80 (argsT A80 (v80 tu80) xs)
def tu38:=U t38
theorem ue38:tu38=t38:=U_eq _
theorem te38:ta38 tu80=t38:=by rw [ue80];rfl
def v38 (f:Y38) (w:List Vr):Rs:=f (vL w 0) (vL w 1)
def th38:=fun xs=>gOf zr38 zo38 (argsT A38 (v38 tu38) xs)
def tu60:=U t60
theorem ue60:tu60=t60:=U_eq _
theorem te60:t60=t60:=rfl
def v60 (f:Y60) (w:List Vr):Rs:=f (vL w 0) (vL w 1)
def th60:=fun xs=>gOf zr60 zo60 (argsT A60 (v60 tu60) xs)
def tu21:=U t21
theorem ue21:tu21=t21:=U_eq _
theorem te21:ta21 tu38 tu60=t21:=by rw [ue38,ue60];rfl
def v21 (f:Y21) (w:List Vr):Rs:=f (vI w 0) (vI w 1) (vI w 2) (vI w 3) (vI w 4) (vI w 5) (vI w 6) (vI w 7) (vL w 8) (vI w 9) (vL w 10) (vL w 11) (vL w 12) (vI w 13) (vI w 14) (vI w 15) (vI w 16) (vI w 17) (vI w 18) (vI w 19) (vI w 20) (vL w 21) (vI w 22) (vL w 23) (vL w 24) (vL w 25)
def th21:=fun xs=>gOf zr21 zo21 (argsT A21 (v21 tu21) xs)
def tu191:=U t191
theorem ue191:tu191=t191:=U_eq _
theorem te191:t191=t191:=rfl
def v191 (f:Y191) (w:List Vr):Rs:=f (vS w 0) (vI w 1) (vS w 2) (vI w 3)
def th191:=fun xs=>gOf zr191 zo191 (argsT A191 (v191 tu191) xs)
def tu181:=U t181
theorem ue181:tu181=t181:=U_eq _
theorem te181:ta181 tu191=t181:=by rw [ue191];rfl
def v181 (f:Y181) (w:List Vr):Rs:=f (vL w 0) (vL w 1)
def th181:=fun xs=>gOf zr181 zo181 (argsT A181 (v181 tu181) xs)
def tu162:=U t162
theorem ue162:tu162=t162:=U_eq _
theorem te162:ta162 tu181=t162:=by rw [ue181];rfl
def v162 (f:Y162) (w:List Vr):Rs:=f (vI w 0) (vI w 1) (vI w 2) (vI w 3) (vI w 4) (vS w 5) (vL w 6) (vI w 7) (vI w 8) (vI w 9) (vI w 10) (vI w 11) (vI w 12) (vI w 13) (vS w 14) (vL w 15) (vI w 16) (vI w 17)
def th162:=fun xs=>gOf zr162 zo162 (argsT A162 (v162 tu162) xs)
def tu134:=U t134
theorem ue134:tu134=t134:=U_eq _
theorem te134:ta134 tu162=t134:=by rw [ue162];rfl
def v134 (f:Y134) (w:List Vr):Rs:=f (vL w 0) (vL w 1)
def th134:=fun xs=>gOf zr134 zo134 (argsT A134 (v134 tu134) xs)
def tu101:=U t101
theorem ue101:tu101=t101:=U_eq _
theorem te101:ta101 tu134=t101:=by rw [ue134];rfl
def v101 (f:Y101) (w:List Vr):Rs:=f (vI w 0) (vL w 1) (vI w 2) (vL w 3)
def th101:=fun xs=>gOf zr101 zo101 (argsT A101 (v101 tu101) xs)
def tu135:=U t135
theorem ue135:tu135=t135:=U_eq _
theorem te135:t135=t135:=rfl
def v135 (f:Y135) (w:List Vr):Rs:=f (vI w 0) (vI w 1) (vI w 2) (vI w 3) (vI w 4) (vI w 5) (vI w 6) (vI w 7) (vI w 8) (vI w 9)
def th135:=fun xs=>gOf zr135 zo135 (argsT A135 (v135 tu135) xs)
def tu102:=U t102
theorem ue102:tu102=t102:=U_eq _
theorem te102:ta102 tu135=t102:=by rw [ue135];rfl
def v102 (f:Y102) (w:List Vr):Rs:=f (vL w 0) (vL w 1)
def th102:=fun xs=>gOf zr102 zo102 (argsT A102 (v102 tu102) xs)
def tu163:=U t163
theorem ue163:tu163=t163:=U_eq _
theorem te163:t163=t163:=rfl
def v163 (f:Y163) (w:List Vr):Rs:=f (vI w 0) (vS w 1) (vI w 2) (vS w 3)
def th163:=fun xs=>gOf zr163 zo163 (argsT A163 (v163 tu163) xs)
def tu136:=U t136
theorem ue136:tu136=t136:=U_eq _
theorem te136:ta136 tu163=t136:=by rw [ue163];rfl
def v136 (f:Y136) (w:List Vr):Rs:=f (vI w 0) (vI w 1) (vI w 2) (vI w 3) (vS w 4) (vI w 5) (vI w 6) (vI w 7) (vI w 8) (vS w 9)
def th136:=fun xs=>gOf zr136 zo136 (argsT A136 (v136 tu136) xs)
def tu103:=U t103
theorem ue103:tu103=t103:=U_eq _
theorem te103:ta103 tu136=t103:=by rw [ue136];rfl
def v103 (f:Y103) (w:List Vr):Rs:=f (vL w 0) (vL w 1)
def th103:=fun xs=>gOf zr103 zo103 (argsT A103 (v103 tu103) xs)
def tu61:=U t61
theorem ue61:tu61=t61:=U_eq _
theorem te61:ta61 tu101 tu102 tu103=t61:=by rw [ue101,ue102,ue103];rfl
def v61 (f:Y61) (w:List Vr):Rs:=f (vI w 0) (vL w 1) (vI w 2) (vL w 3) (vL w 4) (vI w 5) (vL w 6) (vI w 7) (vL w 8) (vL w 9)
def th61:=fun xs=>gOf zr61 zo61 (argsT A61 (v61 tu61) xs)
def tu22:=U t22
theorem ue22:tu22=t22:=U_eq _
theorem te22:ta22 tu61=t22:=by rw [ue61];rfl
def v22 (f:Y22) (w:List Vr):Rs:=f (vL w 0) (vL w 1)
def th22:=fun xs=>gOf zr22 zo22 (argsT A22 (v22 tu22) xs)
def tu23:=U t23
theorem ue23:tu23=t23:=U_eq _
theorem te23:t23=t23:=rfl
def v23 (f:Y23) (w:List Vr):Rs:=f (vI w 0) (vI w 1) (vS w 2) (vI w 3) (vI w 4) (vS w 5)
def th23:=fun xs=>gOf zr23 zo23 (argsT A23 (v23 tu23) xs)
def tu62:=U t62
theorem ue62:tu62=t62:=U_eq _
theorem te62:ta62 tu23 tu38=t62:=by rw [ue23,ue38];rfl
def v62 (f:Y62) (w:List Vr):Rs:=f (vI w 0) (vI w 1) (vI w 2) (vI w 3) (vS w 4) (vL w 5) (vI w 6) (vI w 7) (vI w 8) (vI w 9) (vS w 10) (vL w 11)
def th62:=fun xs=>gOf zr62 zo62 (argsT A62 (v62 tu62) xs)
def tu104:=U t104
theorem ue104:tu104=t104:=U_eq _
theorem te104:t104=t104:=rfl
def v104 (f:Y104) (w:List Vr):Rs:=f (vI w 0) (vI w 1) (vI w 2) (vI w 3) (vS w 4) (vI w 5) (vI w 6) (vI w 7) (vI w 8) (vS w 9)
def th104:=fun xs=>gOf zr104 zo104 (argsT A104 (v104 tu104) xs)
def tu63:=U t63
theorem ue63:tu63=t63:=U_eq _
theorem te63:ta63 tu104=t63:=by rw [ue104];rfl
def v63 (f:Y63) (w:List Vr):Rs:=f (vL w 0) (vL w 1)
def th63:=fun xs=>gOf zr63 zo63 (argsT A63 (v63 tu63) xs)
def tu24:=U t24
theorem ue24:tu24=t24:=U_eq _
theorem te24:ta24 tu62 tu63=t24:=by rw [ue62,ue63];rfl
def v24 (f:Y24) (w:List Vr):Rs:=f (vI w 0) (vI w 1) (vI w 2) (vI w 3) (vS w 4) (vL w 5) (vL w 6) (vI w 7) (vI w 8) (vI w 9) (vI w 10) (vS w 11) (vL w 12) (vL w 13)
def th24:=fun xs=>gOf zr24 zo24 (argsT A24 (v24 tu24) xs)
def tu105:=U t105
theorem ue105:tu105=t105:=U_eq _
theorem te105:t105=t105:=rfl
def v105 (f:Y105) (w:List Vr):Rs:=f (vI w 0) (vS w 1) (vS w 2) (vI w 3) (vI w 4) (vS w 5) (vI w 6) (vS w 7) (vS w 8) (vI w 9) (vI w 10) (vS w 11)
def th105:=fun xs=>gOf zr105 zo105 (argsT A105 (v105 tu105) xs)
def tu64:=U t64
theorem ue64:tu64=t64:=U_eq _
theorem te64:ta64 tu105=t64:=by rw [ue105];rfl
def v64 (f:Y64) (w:List Vr):Rs:=f (vI w 0) (vI w 1) (vI w 2) (vI w 3) (vS w 4) (vS w 5) (vI w 6) (vI w 7) (vS w 8) (vI w 9) (vI w 10) (vI w 11) (vI w 12) (vS w 13) (vS w 14) (vI w 15) (vI w 16) (vS w 17)
def th64:=fun xs=>gOf zr64 zo64 (argsT A64 (v64 tu64) xs)
def tu25:=U t25
theorem ue25:tu25=t25:=U_eq _
theorem te25:ta25 tu64=t25:=by rw [ue64];rfl
def v25 (f:Y25) (w:List Vr):Rs:=f (vL w 0) (vL w 1)
def th25:=fun xs=>gOf zr25 zo25 (argsT A25 (v25 tu25) xs)
def tu7:=U t7
theorem ue7:tu7=t7:=U_eq _
theorem te7:ta7 tu21 tu22 tu23 tu24 tu25=t7:=by rw [ue21,ue22,ue23,ue24,ue25];rfl
def v7 (f:Y7) (w:List Vr):Rs:=f (vI w 0) (vI w 1) (vB w 2) (vI w 3) (vI w 4) (vI w 5) (vI w 6) (vI w 7) (vI w 8) (vI w 9) (vI w 10) (vL w 11) (vI w 12) (vL w 13) (vL w 14) (vL w 15) (vL w 16) (vI w 17) (vI w 18) (vS w 19) (vI w 20) (vI w 21) (vI w 22) (vI w 23) (vS w 24) (vL w 25) (vL w 26) (vL w 27) (vI w 28) (vI w 29) (vI w 30) (vI w 31) (vB w 32) (vI w 33) (vI w 34) (vI w 35) (vI w 36) (vI w 37) (vI w 38) (vI w 39) (vI w 40) (vL w 41) (vI w 42) (vL w 43) (vL w 44) (vL w 45) (vL w 46) (vI w 47) (vI w 48) (vS w 49) (vI w 50) (vI w 51) (vI w 52) (vI w 53) (vS w 54) (vL w 55) (vL w 56) (vL w 57) (vI w 58) (vI w 59)
def th7:=fun xs=>gOf zr7 zo7 (argsT A7 (v7 tu7) xs)
def tu35:=U t35
theorem ue35:tu35=t35:=U_eq _
theorem te35:ta35 tu7=t35:=by rw [ue7];rfl
def v35 (f:Y35) (w:List Vr):Rs:=f (vL w 0) (vL w 1)
def th35:=fun xs=>gOf zr35 zo35 (argsT A35 (v35 tu35) xs)
def tu78:=U t78
theorem ue78:tu78=t78:=U_eq _
theorem te78:ta78 tu38=t78:=by rw [ue38];rfl
def v78 (f:Y78) (w:List Vr):Rs:=f (vI w 0) (vI w 1) (vI w 2) (vI w 3) (vI w 4) (vI w 5) (vI w 6) (vB w 7) (vL w 8) (vS w 9) (vI w 10) (vI w 11) (vI w 12) (vI w 13) (vI w 14) (vI w 15) (vI w 16) (vB w 17) (vL w 18) (vS w 19)
def th78:=fun xs=>gOf zr78 zo78 (argsT A78 (v78 tu78) xs)
def tu36:=U t36
theorem ue36:tu36=t36:=U_eq _
theorem te36:ta36 tu78=t36:=by rw [ue78];rfl
def v36 (f:Y36) (w:List Vr):Rs:=f (vL w 0) (vL w 1)
def th36:=fun xs=>gOf zr36 zo36 (argsT A36 (v36 tu36) xs)
def tu79:=U t79
theorem ue79:tu79=t79:=U_eq _
theorem te79:t79=t79:=rfl
def v79 (f:Y79) (w:List Vr):Rs:=f (vI w 0) (vI w 1) (vI w 2) (vB w 3) (vI w 4) (vS w 5) (vI w 6) (vI w 7) (vI w 8) (vB w 9) (vI w 10) (vS w 11)
def th79:=fun xs=>gOf zr79 zo79 (argsT A79 (v79 tu79) xs)
def tu37:=U t37
theorem ue37:tu37=t37:=U_eq _
theorem te37:ta37 tu79=t37:=by rw [ue79];rfl
def v37 (f:Y37) (w:List Vr):Rs:=f (vL w 0) (vL w 1)
def th37:=fun xs=>gOf zr37 zo37 (argsT A37 (v37 tu37) xs)
def tu12:=U t12
theorem ue12:tu12=t12:=U_eq _
theorem te12:ta12 tu35 tu36 tu37 tu38=t12:=by rw [ue35,ue36,ue37,ue38];rfl
def v12 (f:Y12) (w:List Vr):Rs:=f (vL w 0) (vL w 1) (vL w 2) (vL w 3) (vB w 4) (vL w 5) (vL w 6) (vL w 7) (vL w 8) (vB w 9)
def th12:=fun xs=>gOf zr12 zo12 (argsT A12 (v12 tu12) xs)
def tu71:=U t71
theorem ue71:tu71=t71:=U_eq _
theorem te71:t71=t71:=rfl
def v71 (f:Y71) (w:List Vr):Rs:=f (vI w 0)
def th71:=fun xs=>gOf zr71 zo71 (argsT A71 (v71 tu71) xs)
def tu42:=U t42
theorem ue42:tu42=t42:=U_eq _
theorem te42:ta42 tu71=t42:=by rw [ue71];rfl
def v42 (f:Y42) (w:List Vr):Rs:=f (vL w 0) (vI w 1)
def th42:=fun xs=>gOf zr42 zo42 (argsT A42 (v42 tu42) xs)
def tu65:=U t65
theorem ue65:tu65=t65:=U_eq _
theorem te65:t65=t65:=rfl
def v65 (f:Y65) (w:List Vr):Rs:=f (vL w 0) (vI w 1)
def th65:=fun xs=>gOf zr65 zo65 (argsT A65 (v65 tu65) xs)
def tu106:=U t106
theorem ue106:tu106=t106:=U_eq _
theorem te106:ta106 tu71=t106:=by rw [ue71];rfl
def v106 (f:Y106) (w:List Vr):Rs:=f (vL w 0) (vI w 1)
def th106:=fun xs=>gOf zr106 zo106 (argsT A106 (v106 tu106) xs)
def tu66:=U t66
theorem ue66:tu66=t66:=U_eq _
theorem te66:ta66 tu71 tu106=t66:=by rw [ue71,ue106];rfl
def v66 (f:Y66) (w:List Vr):Rs:=f (vL w 0) (vI w 1)
def th66:=fun xs=>gOf zr66 zo66 (argsT A66 (v66 tu66) xs)
def tu67:=U t67
theorem ue67:tu67=t67:=U_eq _
theorem te67:t67=t67:=rfl
def v67 (f:Y67) (w:List Vr):Rs:=f (vL w 0) (vI w 1)
def th67:=fun xs=>gOf zr67 zo67 (argsT A67 (v67 tu67) xs)
def tu68:=U t68
theorem ue68:tu68=t68:=U_eq _
theorem te68:ta68 tu71=t68:=by rw [ue71];rfl
def v68 (f:Y68) (w:List Vr):Rs:=f (vL w 0) (vI w 1)
def th68:=fun xs=>gOf zr68 zo68 (argsT A68 (v68 tu68) xs)
def tu27:=U t27
theorem ue27:tu27=t27:=U_eq _
theorem te27:ta27 tu66 tu67 tu68=t27:=by rw [ue66,ue67,ue68];rfl
def v27 (f:Y27) (w:List Vr):Rs:=f (vL w 0) (vI w 1)
def th27:=fun xs=>gOf zr27 zo27 (argsT A27 (v27 tu27) xs)
def tu70:=U t70
theorem ue70:tu70=t70:=U_eq _
theorem te70:ta70 tu71=t70:=by rw [ue71];rfl
def v70 (f:Y70) (w:List Vr):Rs:=f (vL w 0) (vI w 1)
def th70:=fun xs=>gOf zr70 zo70 (argsT A70 (v70 tu70) xs)
def tu29:=U t29
theorem ue29:tu29=t29:=U_eq _
theorem te29:ta29 tu71=t29:=by rw [ue71];rfl
def v29 (f:Y29) (w:List Vr):Rs:=f (vL w 0) (vI w 1)
def th29:=fun xs=>gOf zr29 zo29 (argsT A29 (v29 tu29) xs)
def tu39:=U t39
theorem ue39:tu39=t39:=U_eq _
theorem te39:ta39 tu27 tu29 tu42 tu65 tu70 tu71=t39:=by rw [ue27,ue29,ue42,ue65,ue70,ue71];rfl
def v39 (f:Y39) (w:List Vr):Rs:=f (vL w 0) (vI w 1)
def th39:=fun xs=>gOf zr39 zo39 (argsT A39 (v39 tu39) xs)
def tu40:=U t40
theorem ue40:tu40=t40:=U_eq _
theorem te40:ta40 tu42 tu71=t40:=by rw [ue42,ue71];rfl
def v40 (f:Y40) (w:List Vr):Rs:=f (vL w 0) (vI w 1)
def th40:=fun xs=>gOf zr40 zo40 (argsT A40 (v40 tu40) xs)
def tu41:=U t41
theorem ue41:tu41=t41:=U_eq _
theorem te41:ta41 tu71=t41:=by rw [ue71];rfl
def v41 (f:Y41) (w:List Vr):Rs:=f (vL w 0) (vI w 1)
def th41:=fun xs=>gOf zr41 zo41 (argsT A41 (v41 tu41) xs)
def tu13:=U t13
theorem ue13:tu13=t13:=U_eq _
theorem te13:ta13 tu39 tu40 tu41 tu42=t13:=by rw [ue39,ue40,ue41,ue42];rfl
def v13 (f:Y13) (w:List Vr):Rs:=f (vL w 0) (vL w 1) (vL w 2) (vL w 3) (vB w 4) (vI w 5)
def th13:=fun xs=>gOf zr13 zo13 (argsT A13 (v13 tu13) xs)
def tu46:=U t46
theorem ue46:tu46=t46:=U_eq _
theorem te46:ta46 tu71=t46:=by rw [ue71];rfl
def v46 (f:Y46) (w:List Vr):Rs:=f (vL w 0) (vI w 1)
def th46:=fun xs=>gOf zr46 zo46 (argsT A46 (v46 tu46) xs)
def tu72:=U t72
theorem ue72:tu72=t72:=U_eq _
theorem te72:t72=t72:=rfl
def v72 (f:Y72) (w:List Vr):Rs:=f (vL w 0) (vI w 1)
def th72:=fun xs=>gOf zr72 zo72 (argsT A72 (v72 tu72) xs)
def tu107:=U t107
theorem ue107:tu107=t107:=U_eq _
theorem te107:ta107 tu71=t107:=by rw [ue71];rfl
def v107 (f:Y107) (w:List Vr):Rs:=f (vL w 0) (vI w 1)
def th107:=fun xs=>gOf zr107 zo107 (argsT A107 (v107 tu107) xs)
def tu73:=U t73
theorem ue73:tu73=t73:=U_eq _
theorem te73:ta73 tu71 tu107=t73:=by rw [ue71,ue107];rfl
def v73 (f:Y73) (w:List Vr):Rs:=f (vL w 0) (vI w 1)
def th73:=fun xs=>gOf zr73 zo73 (argsT A73 (v73 tu73) xs)
def tu74:=U t74
theorem ue74:tu74=t74:=U_eq _
theorem te74:t74=t74:=rfl
def v74 (f:Y74) (w:List Vr):Rs:=f (vL w 0) (vI w 1)
def th74:=fun xs=>gOf zr74 zo74 (argsT A74 (v74 tu74) xs)
def tu75:=U t75
theorem ue75:tu75=t75:=U_eq _
theorem te75:ta75 tu71=t75:=by rw [ue71];rfl
def v75 (f:Y75) (w:List Vr):Rs:=f (vL w 0) (vI w 1)
def th75:=fun xs=>gOf zr75 zo75 (argsT A75 (v75 tu75) xs)
def tu31:=U t31
theorem ue31:tu31=t31:=U_eq _
theorem te31:ta31 tu73 tu74 tu75=t31:=by rw [ue73,ue74,ue75];rfl
def v31 (f:Y31) (w:List Vr):Rs:=f (vL w 0) (vI w 1)
def th31:=fun xs=>gOf zr31 zo31 (argsT A31 (v31 tu31) xs)
def tu77:=U t77
theorem ue77:tu77=t77:=U_eq _
theorem te77:ta77 tu71=t77:=by rw [ue71];rfl
def v77 (f:Y77) (w:List Vr):Rs:=f (vL w 0) (vI w 1)
def th77:=fun xs=>gOf zr77 zo77 (argsT A77 (v77 tu77) xs)
def tu33:=U t33
theorem ue33:tu33=t33:=U_eq _
theorem te33:ta33 tu71=t33:=by rw [ue71];rfl
def v33 (f:Y33) (w:List Vr):Rs:=f (vL w 0) (vI w 1)
def th33:=fun xs=>gOf zr33 zo33 (argsT A33 (v33 tu33) xs)
def tu43:=U t43
theorem ue43:tu43=t43:=U_eq _
theorem te43:ta43 tu31 tu33 tu46 tu71 tu72 tu77=t43:=by rw [ue31,ue33,ue46,ue71,ue72,ue77];rfl
def v43 (f:Y43) (w:List Vr):Rs:=f (vL w 0) (vI w 1)
def th43:=fun xs=>gOf zr43 zo43 (argsT A43 (v43 tu43) xs)
def tu44:=U t44
theorem ue44:tu44=t44:=U_eq _
theorem te44:ta44 tu46 tu71=t44:=by rw [ue46,ue71];rfl
def v44 (f:Y44) (w:List Vr):Rs:=f (vL w 0) (vI w 1)
def th44:=fun xs=>gOf zr44 zo44 (argsT A44 (v44 tu44) xs)
def tu45:=U t45
theorem ue45:tu45=t45:=U_eq _
theorem te45:ta45 tu71=t45:=by rw [ue71];rfl
def v45 (f:Y45) (w:List Vr):Rs:=f (vL w 0) (vI w 1)
def th45:=fun xs=>gOf zr45 zo45 (argsT A45 (v45 tu45) xs)
def tu14:=U t14
theorem ue14:tu14=t14:=U_eq _
theorem te14:ta14 tu43 tu44 tu45 tu46=t14:=by rw [ue43,ue44,ue45,ue46];rfl
def v14 (f:Y14) (w:List Vr):Rs:=f (vL w 0) (vL w 1) (vL w 2) (vL w 3) (vB w 4) (vI w 5)
def th14:=fun xs=>gOf zr14 zo14 (argsT A14 (v14 tu14) xs)
def tu4:=U t4
theorem ue4:tu4=t4:=U_eq _
theorem te4:ta4 tu10 tu11 tu12 tu13 tu14=t4:=by rw [ue10,ue11,ue12,ue13,ue14];rfl
def v4 (f:Y4) (w:List Vr):Rs:=f (vI w 0)
def th4:=fun xs=>gOf zr4 zo4 (argsT A4 (v4 tu4) xs)
def sg34:Sig:=⟨[.bor,.bor,.bor],.sc [.one (.b false)],[0,1,2,6],[]⟩
def sg15:Sig:=⟨[],.fresh [[none,none,none,none,none,some (116,2),some (139,5)]],[0],[]⟩
def sg108:Sig:=⟨[.bor,.bor],.sc [.one (.b false)],[0,1,4,6],[]⟩
def sg81:Sig:=⟨[.bor],.sc [.one (.b false)],[0,1,2,3,4,5,68,76,105],[]⟩
def sg109:Sig:=⟨[.bor],.fresh [[none,none,none,none,none,some (116,2)]],[0,1,2],[]⟩
def sg137:Sig:=⟨[.bor],.sc [.one (.b false)],[0,1,2,4,5,25,46,66],[]⟩
def sg164:Sig:=⟨[.bor],.sc [.one (.i .i64 0)],[0,1,2,6],[]⟩
def sg138:Sig:=⟨[.bor,.bor],.sc [.one (.b false)],[0,1,2,3,4,5,14,15,41,68,82],[(6,dr 0 26)]⟩
def sg139:Sig:=⟨[.bor,.bor,.bor],.fresh [[some (116,2)]],[0,1,2,3,6,7,32],[]⟩
def sg110:Sig:=⟨[.own [none,none,none,none,none,some (116,2)],.bor],.fresh [[none,none,none,none,none,some (116,2)],[none]],[0,1,2,3,4,5,14,17,33,41,53],[]⟩
def sg82:Sig:=⟨[.bor,.bor],.freshT [.agg [.i .i64 0,.i .i64 0,.i .i64 0,.i .i64 0,.s ⟨#[]⟩,.l []],.one (.b false)] [[none,none,none,none,none,some (116,2)],[none]],[0,1,2,4,5,6,7,8,9,22,36],[(5,[(10,2,[])]++dr 0 6++[(6,1,[])]++dr 7 3++[(11,1,[9]),(12,0,[])])]⟩
def sg47:Sig:=⟨[.bor],.sc [.one (.b false)],[0,1,2,4,14,1000020],[]⟩
def sg48:Sig:=⟨[.bor],.sc [.one (.b false)],[0,1,2],[]⟩
def sg54:Sig:=⟨[.bor,.bor],.fresh [[none,none,none,none,none,some (116,2)]],[0,1,2,4,5,17],[(1,[(4,2,[]),(9,2,[])]++dr 0 4++[(5,0,[]),(6,0,[]),(7,1,[0,1,2,3]),(8,0,[]),(10,1,[])])]⟩
def sg83:Sig:=⟨[.bor],.sc [.one (.i .i64 0)],[0,1,2],[]⟩
def sg84:Sig:=⟨[.bor,.bor],.sc [.one (.b false)],[0,1,4,5,9,17],[]⟩
def sg49:Sig:=⟨[.bor],.sc [.one (.b false)],[0,1,2,3,4,50,52,53,86,92,122,166,217,221,253],[(1,dr 0 25++[(25,1,[])]++dr 26 20),(10,dr 0 28),(14,dr 0 50),(19,dr 0 30)]⟩
def sg50:Sig:=⟨[.bor],.sc [.one (.b false)],[],[]⟩
def sg51:Sig:=⟨[.bor],.fresh [[some (94,5)],[none]],[],[]⟩
def sg52:Sig:=⟨[.bor,.bor],.sc [.one (.b false)],[],[]⟩
def sg53:Sig:=⟨[.bor,.bor],.sc [.one (.b false)],[],[]⟩
def sg16:Sig:=⟨[.bor],.sc [.one (.b false)],[0,1,2,3,5,53,56,134,137,146,161],[(14,dr 0 7++[(7,1,[0,1,2]),(8,0,[]),(9,0,[])])]⟩
def sg55:Sig:=⟨[.bor,.bor,.bor],.fresh [[none,none,none,none,none,none,none,none,some (116,2),none,some (3,1),some (3,1),some (3,1)],[none]],[0,1,2,5,6,7,8,31,35],[(1,[(12,2,[]),(20,2,[])]++dr 0 12++[(13,0,[]),(14,0,[])]++dr 16 3++[(15,1,[0,1,2,3,4,5,6,7,8,9,10,11,16,17,18]),(19,0,[]),(21,1,[])])]⟩
def sg120:Sig:=⟨[],.fresh [[none,some (143,9)]],[0],[]⟩
def sg91:Sig:=⟨[],.fresh [[none,some (143,9),none,some (146,5),some (150,5)]],[0,1],[]⟩
def sg56:Sig:=⟨[],.fresh [[some (94,5)]],[0,1,2,5],[]⟩
def sg17:Sig:=⟨[.own [none,none,none,none,none,none,none,none,none,none,none,some (116,2),none,some (3,1),some (3,1),some (3,1),some (94,5),none,none,none,none,none,none,none,none,some (116,2),some (139,5),some (100,9),none,none]],.fresh [[none,none,none,none,none,none,none,none,none,none,none,some (116,2),none,some (3,1),some (3,1),some (3,1),some (94,5),none,none,none,none,none,none,none,none,some (116,2),some (139,5),some (100,9),none,none],[none]],[0,1,2,3,4,5,6,7,8,9,11,29,43],[]⟩
def sg5:Sig:=⟨[.bor,.bor],.fresh [[none,none,none,none,none,none,none,none,none,none,none,some (116,2),none,some (3,1),some (3,1),some (3,1),some (94,5),none,none,none,none,none,none,none,none,some (116,2),some (139,5),some (100,9),none,none],[none]],[0,1,4,5,6,7,8,15],[]⟩
def sg10:Sig:=⟨[.bor],.fresh [[some (36,30),some (110,10),some (113,6),some (116,2),none],[none]],[0,2,3,4,5,6,11,15],[(1000004,[(256,0,[36,30])])]⟩
def sg18:Sig:=⟨[.bor,.bor,.bor],.sc [.one (.b false)],[0,1,2,6],[]⟩
def sg20:Sig:=⟨[],.fresh [[none,none,none,none,none,some (116,2),some (139,5)]],[0],[]⟩
def sg130:Sig:=⟨[.bor],.sc [.one (.b false)],[0,1,2,3,5,21,48,54,55,56,57,72],[]⟩
def sg129:Sig:=⟨[.bor],.fresh [[none,none,none,none,none,some (116,2)]],[0,1,2],[]⟩
def sg169:Sig:=⟨[.bor],.sc [.one (.b false)],[0,1,2,3,4,9,10,26,51,59],[(5,dr 0 5++[(5,1,[2,3]),(6,0,[]),(7,1,[])]),(8,dr 0 7++[(7,1,[2,3,4,5]),(8,0,[]),(9,1,[4,5]),(10,0,[]),(11,1,[])]),(14,dr 0 7++[(7,1,[2,3,4,5]),(8,0,[]),(9,1,[4,5]),(10,0,[]),(11,1,[])])]⟩
def sg183:Sig:=⟨[.rptr 6],.sc [.one (.i .i64 0),.one (.i .i64 0)],[0,2,3,4,11],[(3,dr 0 12),(4,dr 0 18)]⟩
def sg170:Sig:=⟨[.rptr 6,.bor],.sc [.one (.b false)],[0,1,3,4,5,6,13,14,48,73],[(4,dr 0 33),(6,dr 0 24),(8,dr 0 11),(9,dr 0 18)]⟩
def sg150:Sig:=⟨[.ptr [none,none,none,none,none,some (116,2)],.bor],.sc [.one (.b false)],[0,1,3,4,5,6,7,16,18,47,70,82,98],[(14,dr 0 10++[(10,1,[0,1,2,3,4]),(11,1,[0]),(12,0,[]),(13,0,[]),(14,1,[])]),(16,dr 0 10),(5,dr 0 9),(6,dr 0 21)]⟩
def sg121:Sig:=⟨[.rptr 7],.fresh [[none,none,none,none,none,some (116,2)],[none]],[0,2,3,4,6,20,30,31,32,33,38],[]⟩
def sg92:Sig:=⟨[.bor],.sc [.one (.b false)],[0,1,2,4],[]⟩
def sg93:Sig:=⟨[.rptr 30],.sc [.one (.b false)],[],[]⟩
def sg94:Sig:=⟨[.bor],.sc [.one (.b false)],[0,1,2,3],[]⟩
def sg57:Sig:=⟨[.bor],.sc [.one (.b false)],[0,1,2,50,52],[]⟩
def sg127:Sig:=⟨[.bor],.fresh [[some (3,1)]],[0,2],[]⟩
def sg95:Sig:=⟨[.bor],.fresh [[none,none,none,none,none,none,none,none,some (116,2),none,some (3,1),some (3,1),some (3,1)]],[0,1,2],[]⟩
def sg157:Sig:=⟨[.bor],.fresh [[none,some (143,9)]],[0,1,2,3,5,10,11,12,13],[(1000002,[(192,1,[143,9])])]⟩
def sg128:Sig:=⟨[.bor],.fresh [[none,some (143,9),none,some (146,5),some (150,5)]],[0,1,2],[(1,[(0,0,[]),(1,0,[])]++dr 3 4++[(8,0,[]),(9,0,[]),(2,1,[3,4,5,6,8,9]),(7,1,[3,4,8,9]),(10,1,[3,4]),(11,0,[]),(12,1,[])])]⟩
def sg96:Sig:=⟨[.bor],.fresh [[some (94,5)]],[0,2,3,5,6,7,8,9],[(1000002,[(3,0,[94,5,0])])]⟩
def sg97:Sig:=⟨[.bor],.fresh [[none,none,none,none,none,some (116,2),some (139,5)]],[0,1,2],[(1,[(0,0,[]),(1,0,[]),(3,0,[]),(4,0,[]),(2,1,[3,4]),(5,1,[]),(6,0,[]),(7,1,[])])]⟩
def sg58:Sig:=⟨[.bor],.fresh [[none,none,none,none,none,none,none,none,none,none,none,some (116,2),none,some (3,1),some (3,1),some (3,1),some (94,5),none,none,none,none,none,none,none,none,some (116,2),some (139,5),some (100,9),none,none]],[0,1,2],[]⟩
def sg125:Sig:=⟨[.rptr 13,.bor],.fresh [[none,none,none,none,none,some (116,2)]],[0,1,4,5,24],[(1,[(14,2,[])]++dr 0 12++[(12,1,[0,1,2,3,4,5,6,7]),(13,0,[]),(15,1,[])]),(3,dr 0 11++[(11,1,[])])]⟩
def sg151:Sig:=⟨[.rptr 13],.sc [.one (.i .i64 0)],[0,2],[(1,dr 0 11)]⟩
def sg184:Sig:=⟨[.bor,.bor],.sc [.one (.i .i64 0)],[0,1,4,5,7,8,9,16],[]⟩
def sg171:Sig:=⟨[.bor,.bor],.sc [.one (.b false)],[0,1,4],[]⟩
def sg172:Sig:=⟨[.rptr 13,.bor],.sc [.one (.b false)],[0,1,4],[]⟩
def sg152:Sig:=⟨[.rptr 13],.sc [.one (.b false)],[0,2,3,4,8,9,10,11,38],[(7,dr 0 59)]⟩
def sg153:Sig:=⟨[.rptr 13],.sc [.one (.b false)],[0,2,3,4,63,67,68,69,70,99],[(1,dr 0 59),(6,dr 0 26),(9,dr 0 14)]⟩
def sg122:Sig:=⟨[.bor],.sc [.one (.b false)],[0,1,2,51,53,54,83,86],[(1,dr 0 36++[(36,1,[])]++dr 37 12)]⟩
def sg98:Sig:=⟨[.bor,.bor,.bor],.fresh [[none,none,none,none,none,none,none,none,some (116,2),none,some (3,1),some (3,1),some (3,1)],[none]],[0,1,2,5,6,7,8,11,34],[(3,[(19,2,[])]++dr 0 14++dr 15 3++[(14,1,[0,1,2,3,4,5,6,7,8,9,10,11,15,16,17]),(18,0,[]),(20,1,[])])]⟩
def sg158:Sig:=⟨[],.fresh [[none,some (143,9)]],[0],[]⟩
def sg131:Sig:=⟨[],.fresh [[none,some (143,9),none,some (146,5),some (150,5)]],[0,1],[]⟩
def sg99:Sig:=⟨[],.fresh [[some (94,5)]],[0,1,3,4],[]⟩
def sg100:Sig:=⟨[.bor],.fresh [[some (94,5)],[none]],[],[]⟩
def sg59:Sig:=⟨[.ptr [none,none,none,none,none,none,none,none,none,none,none,some (116,2),none,some (3,1),some (3,1),some (3,1),some (94,5),none,none,none,none,none,none,none,none,some (116,2),some (139,5),some (100,9),none,none]],.sc [.one (.b false)],[0,2,3,4,5,6,7,32,41,54],[(1,[(17,2,[])]++dr 0 13++[(13,1,[])]++dr 14 3++[(18,1,[16]),(19,0,[])])]⟩
def sg19:Sig:=⟨[.bor],.fresh [[none,none,none,none,none,none,none,none,none,none,none,some (116,2),none,some (3,1),some (3,1),some (3,1),some (94,5),none,none,none,none,none,none,none,none,some (116,2),some (139,5),some (100,9),none,none],[none]],[0,1,2,3,4,5,8],[]⟩
def sg6:Sig:=⟨[.bor,.bor],.fresh [[none,none,none,none,none,none,none,none,none,none,none,some (116,2),none,some (3,1),some (3,1),some (3,1),some (94,5),none,none,none,none,none,none,none,none,some (116,2),some (139,5),some (100,9),none,none],[none]],[0,1,4,5,15],[]⟩
def sg11:Sig:=⟨[.bor],.fresh [[some (36,30),some (110,10),some (113,6),some (116,2),none],[none]],[0,2,3,4,5,6,10,13,14,15],[(1000004,[(256,0,[36,30])])]⟩
def sg80:Sig:=⟨[.bor,.bor],.sc [.one (.b false)],[0,1,2,3,4,9,14],[]⟩
def sg38:Sig:=⟨[.bor,.bor],.sc [.one (.b false)],[0,1,4,5,10,14,26],[(6,dr 0 10)]⟩
def sg60:Sig:=⟨[.bor,.bor],.sc [.one (.b false)],[0,1,4,5,10,14,25],[(6,dr 0 9)]⟩
def sg21:Sig:=⟨[.bor,.bor],.sc [.one (.b false)],[0,1,2,3,4,9,14,19,24,29,34,39,44,50,55,61,67,73],[]⟩
def sg191:Sig:=⟨[.bor,.bor],.sc [.one (.b false)],[0,1,2,3,4,9,14],[]⟩
def sg181:Sig:=⟨[.bor,.bor],.sc [.one (.b false)],[0,1,4,5,10,14,26],[(6,dr 0 10)]⟩
def sg162:Sig:=⟨[.bor,.bor],.sc [.one (.b false)],[0,1,2,3,4,9,14,19,24,29,34,40,45,50],[]⟩
def sg134:Sig:=⟨[.bor,.bor],.sc [.one (.b false)],[0,1,4,5,10,14,26],[(6,dr 0 10)]⟩
def sg101:Sig:=⟨[.bor,.bor],.sc [.one (.b false)],[0,1,2,3,4,9,15],[]⟩
def sg135:Sig:=⟨[.bor,.bor],.sc [.one (.b false)],[0,1,2,3,4,9,14,19,24,29],[]⟩
def sg102:Sig:=⟨[.bor,.bor],.sc [.one (.b false)],[0,1,4,5,10,14,26],[(6,dr 0 10)]⟩
def sg163:Sig:=⟨[.bor,.bor],.sc [.one (.b false)],[0,1,2,3,4,9,14],[]⟩
def sg136:Sig:=⟨[.bor,.bor],.sc [.one (.b false)],[0,1,2,3,4,9,14,19,25],[]⟩
def sg103:Sig:=⟨[.bor,.bor],.sc [.one (.b false)],[0,1,4,5,10,14,26],[(6,dr 0 10)]⟩
def sg61:Sig:=⟨[.bor,.bor],.sc [.one (.b false)],[0,1,2,3,4,10,15,21,27],[]⟩
def sg22:Sig:=⟨[.bor,.bor],.sc [.one (.b false)],[0,1,4,5,10,14,26],[(6,dr 0 10)]⟩
def sg23:Sig:=⟨[.bor,.bor],.sc [.one (.b false)],[0,1,2,3,4,9,14,19],[]⟩
def sg62:Sig:=⟨[.bor,.bor],.sc [.one (.b false)],[0,1,2,3,4,9,14,20,26],[]⟩
def sg104:Sig:=⟨[.bor,.bor],.sc [.one (.b false)],[0,1,2,3,4,9,14,19,24,29],[]⟩
def sg63:Sig:=⟨[.bor,.bor],.sc [.one (.b false)],[0,1,4,5,10,14,26],[(6,dr 0 10)]⟩
def sg24:Sig:=⟨[.bor,.bor],.sc [.one (.b false)],[0,1,2,3,4,10,16],[]⟩
def sg105:Sig:=⟨[.bor,.bor],.sc [.one (.b false)],[0,1,2,3,4,9,14,19,24,29,34],[]⟩
def sg64:Sig:=⟨[.bor,.bor],.sc [.one (.b false)],[0,1,2,3,4,9,14,19,25],[]⟩
def sg25:Sig:=⟨[.bor,.bor],.sc [.one (.b false)],[0,1,4,5,10,14,26],[(6,dr 0 10)]⟩
def sg7:Sig:=⟨[.bor,.bor],.sc [.one (.b false)],[0,1,2,3,4,9,14,19,25,31,37,43,49,54,59],[]⟩
def sg35:Sig:=⟨[.bor,.bor],.sc [.one (.b false)],[0,1,4,5,10,14,26],[(6,dr 0 10)]⟩
def sg78:Sig:=⟨[.bor,.bor],.sc [.one (.b false)],[0,1,2,3,4,9,14,19,24,29,34,39,44,50,55],[]⟩
def sg36:Sig:=⟨[.bor,.bor],.sc [.one (.b false)],[0,1,4,5,10,14,26],[(6,dr 0 10)]⟩
def sg79:Sig:=⟨[.bor,.bor],.sc [.one (.b false)],[0,1,2,3,4,9,14,19,24,29,34],[]⟩
def sg37:Sig:=⟨[.bor,.bor],.sc [.one (.b false)],[0,1,4,5,10,14,26],[(6,dr 0 10)]⟩
def sg12:Sig:=⟨[.bor,.bor],.sc [.one (.b false)],[0,1,2,3,4,10,16,22,28,33],[]⟩
def sg71:Sig:=⟨[.bor],.sc [.one (.s ⟨#[]⟩)],[0,2,3,5,7],[]⟩
def sg42:Sig:=⟨[.io [some (999999999,2)],.bor],.sc [.one (.i .i64 0)],[0,1,4,5,9],[]⟩
def sg65:Sig:=⟨[.io [some (999999999,1)],.bor],.sc [.one (.i .i64 0)],[0,1,4,5,9],[]⟩
def sg106:Sig:=⟨[.io [some (999999999,2)],.bor],.sc [.one (.i .i64 0)],[0,1,4,5,9],[]⟩
def sg66:Sig:=⟨[.io [some (999999999,9)],.bor],.sc [.one (.i .i64 0)],[0,1,4,5,9],[]⟩
def sg67:Sig:=⟨[.io [some (999999999,5)],.bor],.sc [.one (.i .i64 0)],[0,1,4,5,9],[]⟩
def sg68:Sig:=⟨[.io [some (999999999,5)],.bor],.sc [.one (.i .i64 0)],[0,1,4,5,9],[]⟩
def sg27:Sig:=⟨[.io [some (999999999,5)],.bor],.sc [.one (.i .i64 0)],[0,1,4,5,9],[]⟩
def sg70:Sig:=⟨[.io [some (999999999,5)],.bor],.sc [.one (.i .i64 0)],[0,1,4,5,9],[]⟩
def sg29:Sig:=⟨[.io [some (999999999,9)],.bor],.sc [.one (.i .i64 0)],[0,1,4,5,9],[]⟩
def sg39:Sig:=⟨[.io [some (999999999,30)],.bor],.sc [.one (.i .i64 0)],[0,1,4,5,9],[]⟩
def sg40:Sig:=⟨[.io [some (999999999,10)],.bor],.sc [.one (.i .i64 0)],[0,1,4,5,9],[]⟩
def sg41:Sig:=⟨[.io [some (999999999,6)],.bor],.sc [.one (.i .i64 0)],[0,1,4,5,9],[]⟩
def sg13:Sig:=⟨[.io [some (999999999,30),some (999999999,10),some (999999999,6),some (999999999,2),none],.bor],.sc [.one (.i .i64 0)],[0,1,2,4],[]⟩
def sg46:Sig:=⟨[.bor,.bor],.sc [.one (.i .i64 0)],[0,1,4,5,9,18,28],[(7,dr 0 8)]⟩
def sg72:Sig:=⟨[.bor,.bor],.sc [.one (.i .i64 0)],[0,1,4,5,9,17],[]⟩
def sg107:Sig:=⟨[.bor,.bor],.sc [.one (.i .i64 0)],[0,1,4,5,9,19,28],[(4,dr 0 8)]⟩
def sg73:Sig:=⟨[.bor,.bor],.sc [.one (.i .i64 0)],[0,1,4,5,9,18,27,36,45,54,64,75,82,91],[(19,dr 0 8)]⟩
def sg74:Sig:=⟨[.bor,.bor],.sc [.one (.i .i64 0)],[0,1,4,5,9,18,27,36,45,54],[]⟩
def sg75:Sig:=⟨[.bor,.bor],.sc [.one (.i .i64 0)],[0,1,4,5,9,18,27,36,46,57],[(16,dr 0 9)]⟩
def sg31:Sig:=⟨[.bor,.bor],.sc [.one (.i .i64 0)],[0,1,4,5,9,19,31,38,49,58],[]⟩
def sg77:Sig:=⟨[.bor,.bor],.sc [.one (.i .i64 0)],[0,1,4,5,9,18,27,36,45,55],[(16,dr 0 8)]⟩
def sg33:Sig:=⟨[.bor,.bor],.sc [.one (.i .i64 0)],[0,1,4,5,9,18,27,36,46,57,68,78,88,99],[(16,dr 0 9),(19,dr 0 9),(28,dr 0 9)]⟩
def sg43:Sig:=⟨[.bor,.bor],.sc [.one (.i .i64 0)],[0,1,4,5,9,18,27,38,48,58,68,78,88,98,108,118,130,138,150,160,170,179,187,197,208,219,230,242,254,267,280,290,299,306,315],[(61,dr 0 9),(76,dr 0 11)]⟩
def sg44:Sig:=⟨[.bor,.bor],.sc [.one (.i .i64 0)],[0,1,4,5,9,18,27,36,45,54,63,72,83,94,102],[(31,dr 0 8)]⟩
def sg45:Sig:=⟨[.bor,.bor],.sc [.one (.i .i64 0)],[0,1,4,5,9,18,27,36,47,56,66],[(19,dr 0 8)]⟩
def sg14:Sig:=⟨[.bor,.bor],.sc [.one (.i .i64 0)],[0,1,2,4,10,16,22,28],[]⟩
def sg4:Sig:=⟨[.bor],.sc [.one (.b false)],[0,2,3,4,5,6,7,8,9,10,29,37,40,54,59,62],[]⟩
def sig:Nat→Sig:=lkF ⟨[],.fresh [],[],[]⟩ [(34,sg34),(15,sg15),(108,sg108),(81,sg81),(109,sg109),(137,sg137),(164,sg164),(138,sg138),(139,sg139),(110,sg110),(82,sg82),(47,sg47),(48,sg48),(54,sg54),(83,sg83),(84,sg84),(49,sg49),(50,sg50),(51,sg51),(52,sg52),(53,sg53),(16,sg16),(55,sg55),(120,sg120),(91,sg91),(56,sg56),(17,sg17),(5,sg5),(10,sg10),(18,sg18),(20,sg20),(130,sg130),(129,sg129),(169,sg169),(183,sg183),(170,sg170),(150,sg150),(121,sg121),(92,sg92),(93,sg93),(94,sg94),(57,sg57),(127,sg127),(95,sg95),(157,sg157),(128,sg128),(96,sg96),(97,sg97),(58,sg58),(125,sg125),(151,sg151),(184,sg184),(171,sg171),(172,sg172),(152,sg152),(153,sg153),(122,sg122),(98,sg98),(158,sg158),(131,sg131),(99,sg99),(100,sg100),(59,sg59),(19,sg19),(6,sg6),(11,sg11),(80,sg80),(38,sg38),(60,sg60),(21,sg21),(191,sg191),(181,sg181),(162,sg162),(134,sg134),(101,sg101),(135,sg135),(102,sg102),(163,sg163),(136,sg136),(103,sg103),(61,sg61),(22,sg22),(23,sg23),(62,sg62),(104,sg104),(63,sg63),(24,sg24),(105,sg105),(64,sg64),(25,sg25),(7,sg7),(35,sg35),(78,sg78),(36,sg36),(79,sg79),(37,sg37),(12,sg12),(71,sg71),(42,sg42),(65,sg65),(106,sg106),(66,sg66),(67,sg67),(68,sg68),(27,sg27),(70,sg70),(29,sg29),(39,sg39),(40,sg40),(41,sg41),(13,sg13),(46,sg46),(72,sg72),(107,sg107),(73,sg73),(74,sg74),(75,sg75),(31,sg31),(77,sg77),(33,sg33),(43,sg43),(44,sg44),(45,sg45),(14,sg14),(4,sg4)]
def dep:Nat→Nat:=lkF 0 [(34,1),(15,1),(108,2),(81,3),(109,1),(137,2),(164,1),(138,2),(139,1),(110,3),(82,4),(47,5),(48,1),(54,1),(83,1),(84,1),(49,4),(50,1),(51,1),(52,1),(53,1),(16,6),(55,5),(120,1),(91,2),(56,3),(17,6),(5,7),(10,8),(18,1),(20,1),(130,2),(129,1),(169,2),(183,1),(170,2),(150,3),(121,4),(92,5),(93,1),(94,1),(57,6),(127,1),(95,2),(157,1),(128,2),(96,3),(97,2),(58,4),(125,1),(151,1),(184,1),(171,2),(172,1),(152,3),(153,2),(122,4),(98,5),(158,1),(131,2),(99,3),(100,1),(59,6),(19,7),(6,8),(11,9),(80,1),(38,2),(60,1),(21,3),(191,1),(181,2),(162,3),(134,4),(101,5),(135,1),(102,2),(163,1),(136,2),(103,3),(61,6),(22,7),(23,1),(62,3),(104,1),(63,2),(24,4),(105,1),(64,2),(25,3),(7,8),(35,9),(78,3),(36,4),(79,1),(37,2),(12,10),(71,1),(42,2),(65,1),(106,2),(66,3),(67,1),(68,2),(27,4),(70,2),(29,2),(39,5),(40,3),(41,2),(13,6),(46,2),(72,1),(107,2),(73,3),(74,1),(75,2),(31,4),(77,2),(33,2),(43,5),(44,3),(45,2),(14,6),(4,11)]
def gT:List (Nat × (List DV→Bool × List DV × List (List D))):=[(34,th34),(15,th15),(108,th108),(81,th81),(109,th109),(137,th137),(164,th164),(138,th138),(139,th139),(110,th110),(82,th82),(47,th47),(48,th48),(54,th54),(83,th83),(84,th84),(49,th49),(50,th50),(51,th51),(52,th52),(53,th53),(16,th16),(55,th55),(120,th120),(91,th91),(56,th56),(17,th17),(5,th5),(10,th10),(18,th18),(20,th20),(130,th130),(129,th129),(169,th169),(183,th183),(170,th170),(150,th150),(121,th121),(92,th92),(93,th93),(94,th94),(57,th57),(127,th127),(95,th95),(157,th157),(128,th128),(96,th96),(97,th97),(58,th58),(125,th125),(151,th151),(184,th184),(171,th171),(172,th172),(152,th152),(153,th153),(122,th122),(98,th98),(158,th158),(131,th131),(99,th99),(100,th100),(59,th59),(19,th19),(6,th6),(11,th11),(80,th80),(38,th38),(60,th60),(21,th21),(191,th191),(181,th181),(162,th162),(134,th134),(101,th101),(135,th135),(102,th102),(163,th163),(136,th136),(103,th103),(61,th61),(22,th22),(23,th23),(62,th62),(104,th104),(63,th63),(24,th24),(105,th105),(64,th64),(25,th25),(7,th7),(35,th35),(78,th78),(36,th36),(79,th79),(37,th37),(12,th12),(71,th71),(42,th42),(65,th65),(106,th106),(66,th66),(67,th67),(68,th68),(27,th27),(70,th70),(29,th29),(39,th39),(40,th40),(41,th41),(13,th13),(46,th46),(72,th72),(107,th107),(73,th73),(74,th74),(75,th75),(31,th31),(77,th77),(33,th33),(43,th43),(44,th44),(45,th45),(14,th14),(4,th4)]
def G:Nat→List DV→Bool × List DV × List (List D):=lkF (fun _=>(false,[],[])) gT
noncomputable def mkC (f:Nat):Ctx:=⟨Tryz.prog,sig,Gd G dep (dep f),(sig f).keep,(sig f).ord⟩
noncomputable def gc (f:Func):Code:=f.body.getD .skip
noncomputable def bd (c:Code) (n:Nat):Code:=match nodeAt c n with | some (.loop a)=>a | _=>.skip
def Rp (tw:List Vr→Rs) (C:Ctx) (S:LT) (fn:Func) (sg:Sig) (c:Code) (A:List TA):Prop:=∀w,tw w=bodyK C (lkS S) fn sg c (fillAs A 0 w)
theorem okM {Y:Type} {f:Nat} {fn:Func} {S:LT} {A:List TA} {v:Y→List Vr→Rs} {a t u:Y} {c:Code} {zr:List DV} {zo:List (List D)} (r:Rp (v a) (mkC f) S fn (sig f) c A) (hf:Tryz.prog.funcs[f]? = some fn) (hb:fn.body=some c) (hs:AllS (mkC f) KK c 0 S) (e:a=t) (hu:u=t):OkS sig (Gd G dep (dep f)) f (fun xs=>gOf zr zo (argsT A (v u) xs)):=fun xs q h=>body_ok hf hb A (v a) (sums_of hs) r (by rw [e,←hu];exact opt_gOf h)
theorem hole {zr:List DV} {zo:List (List D)} {A:List TA} {t:List Vr→Rs} (ht:∀w,t w=none):∀xs q,opt (gOf zr zo (argsT A t xs))=some q→False:=fun xs q h=>by
  have e:argsT A t xs=none:=by unfold argsT;split;exact ht _;rfl
  rw [e] at h;simp [gOf,opt,okR] at h
def C34:=mkC 34
def c34:=gc Tryz.f34
def ST34:LT:=[]
theorem r34:Rp (v34 t34) C34 ST34 Tryz.f34 (sig 34) c34 A34:=fun w=>by kernel_rfl
theorem ok34:OkS sig (Gd G dep (dep 34)) 34 th34:=okM (v:=v34) r34 Tryz.func34 rfl trivial te34 ue34
def C15:=mkC 15
def c15:=gc Tryz.f15
def ST15:LT:=[]
theorem r15:Rp (v15 t15) C15 ST15 Tryz.f15 (sig 15) c15 A15:=fun w=>by kernel_rfl
theorem ok15:OkS sig (Gd G dep (dep 15)) 15 th15:=okM (v:=v15) r15 Tryz.func15 rfl trivial te15 ue15
def C108:=mkC 108
def c108:=gc Tryz.f108
def ST108:LT:=[]
theorem r108:Rp (v108 (ta108 tu34)) C108 ST108 Tryz.f108 (sig 108) c108 A108:=fun w=>by kernel_rfl
theorem ok108:OkS sig (Gd G dep (dep 108)) 108 th108:=okM (v:=v108) r108 Tryz.func108 rfl trivial te108 ue108
def C81:=mkC 81
def c81:=gc Tryz.f81
def T81o1:TSt:=⟨[ag2,.ptr 64 0,dB,dI,dI,.undef,dB,.any,.any],[(64,bx6)]⟩
def X81o1e1:TSt:=⟨[ag2,.ptr 64 0,dB,dI,dI,.ptr 320 0,dB,dB,dB],[(64,bx6),(320,.box [dI,dS])]⟩
def X81o1e2:TSt:=⟨[ag2,.ptr 64 0,dB,dI,dI,.undef,dB,dB,.any],[(64,bx6)]⟩
def L81o1 (m:Nat) (w:List Vr) (K:KT):Rs:=la81o1 tu34 tu108 (vI w 0) (vI w 1) (vI w 2) (vI w 3) (vS w 4) (vL w 5) (vB w 6) (vB w 9) (vI w 12) (vI w 13) (vI w 14) (vI w 15) (vS w 16) (vL w 17) (fun n59 n60 b61 b62 n63 s64=>K .ret (fillS X81o1e1 [jI w 0,jI w 1,jI w 2,jI w 3,jS w 4,jL w 5,.b (false),.i n59,.i n60,jB w 9,.b b61,.b b62,jI w 12,jI w 13,jI w 14,jI w 15,jS w 16,jL w 17,.i n63,.s s64])) (fun n65 n66 b67 v68=>K (.exit 0) (fillS X81o1e2 [jI w 0,jI w 1,jI w 2,jI w 3,jS w 4,jL w 5,jB w 6,.i n65,.i n66,jB w 9,.b b67,.v v68,jI w 12,jI w 13,jI w 14,jI w 15,jS w 16,jL w 17])) m (vI w 7) (vI w 8) (vV w 10) (vV w 11)
def ST81:LT:=[(1,sumT T81o1 (L81o1 KK))]
def b81o1:=bd c81 1
theorem q81o1:Qp L81o1 C81 ST81 b81o1 2 T81o1:=fun m w K=>by kernel_rfl
theorem o81o1:SumOk C81 KK (sumT T81o1 (L81o1 KK)) (.loop b81o1):=loop_ok T81o1 L81o1 (sums_of (t:=ST81) ⟨fun _ _ h=>absurd h (by decide),trivial⟩) (fun _ _=>rfl) q81o1
theorem r81:Rp (v81 (ta81 tu34 tu108)) C81 ST81 Tryz.f81 (sig 81) c81 A81:=fun w=>by kernel_rfl
theorem ok81:OkS sig (Gd G dep (dep 81)) 81 th81:=okM (v:=v81) r81 Tryz.func81 rfl ⟨sum_in (c':=.loop b81o1) (by kernel_rfl) (o81o1),trivial⟩ te81 ue81
def C109:=mkC 109
def c109:=gc Tryz.f109
def ST109:LT:=[]
theorem r109:Rp (v109 t109) C109 ST109 Tryz.f109 (sig 109) c109 A109:=fun w=>by kernel_rfl
theorem ok109:OkS sig (Gd G dep (dep 109)) 109 th109:=okM (v:=v109) r109 Tryz.func109 rfl trivial te109 ue109
def C137:=mkC 137
def c137:=gc Tryz.f137
def ST137:LT:=[]
theorem r137:Rp (v137 (ta137 tu34)) C137 ST137 Tryz.f137 (sig 137) c137 A137:=fun w=>by kernel_rfl
theorem ok137:OkS sig (Gd G dep (dep 137)) 137 th137:=okM (v:=v137) r137 Tryz.func137 rfl trivial te137 ue137
def C164:=mkC 164
def c164:=gc Tryz.f164
def ST164:LT:=[]
theorem r164:Rp (v164 t164) C164 ST164 Tryz.f164 (sig 164) c164 A164:=fun w=>by kernel_rfl
theorem ok164:OkS sig (Gd G dep (dep 164)) 164 th164:=okM (v:=v164) r164 Tryz.func164 rfl trivial te164 ue164
def C138:=mkC 138
def c138:=gc Tryz.f138
def ST138:LT:=[]
theorem r138:Rp (v138 (ta138 tu164)) C138 ST138 Tryz.f138 (sig 138) c138 A138:=fun w=>by kernel_rfl
theorem ok138:OkS sig (Gd G dep (dep 138)) 138 th138:=okM (v:=v138) r138 Tryz.func138 rfl trivial te138 ue138
def C139:=mkC 139
def c139:=gc Tryz.f139
def ST139:LT:=[]
theorem r139:Rp (v139 t139) C139 ST139 Tryz.f139 (sig 139) c139 A139:=fun w=>by kernel_rfl
theorem ok139:OkS sig (Gd G dep (dep 139)) 139 th139:=okM (v:=v139) r139 Tryz.func139 rfl trivial te139 ue139
def C110:=mkC 110
def c110:=gc Tryz.f110
def ST110:LT:=[]
theorem r110:Rp (v110 (ta110 tu137 tu138 tu139)) C110 ST110 Tryz.f110 (sig 110) c110 A110:=fun w=>by kernel_rfl
theorem ok110:OkS sig (Gd G dep (dep 110)) 110 th110:=okM (v:=v110) r110 Tryz.func110 rfl trivial te110 ue110
def C82:=mkC 82
def c82:=gc Tryz.f82
def T82o0:TSt:=⟨[ag1,dI,.ptr 128 0,.ptr 256 0,dB,.ptr 384 0,dI,.undef,.any,.any,.any],[(128,bx5),(256,bx3),(384,.box [dI,dI,dI,dI,dS,.own 24582]),(24582,.row 116 2)]⟩
def X82o0e1:TSt:=⟨[ag1,dI,.ptr 128 0,.ptr 256 0,dB,.ptr 384 0,dI,.ptr 512 0,dB,dB,dB],[(128,bx5),(256,.box [dI,dI,dI,dI,dS,.undef]),(384,.box [dI,dI,dI,dI,dS,.undef]),(512,.box [dI,dI,dI,dI,dS,.own 32774]),(32774,.row 116 2)]⟩
def X82o0e2:TSt:=⟨[ag1,dI,.ptr 128 0,.ptr 256 0,dB,.ptr 384 0,dI,.undef,.any,dB,.any],[(128,bx5),(256,bx3),(384,.box [dI,dI,dI,dI,dS,.own 24582]),(24582,.row 116 2)]⟩
def L82o0 (m:Nat) (w:List Vr) (K:KT):Rs:=la82o0 tu109 tu110 (vI w 0) (vI w 1) (vI w 2) (vI w 3) (vS w 4) (vL w 5) (vL w 6) (vI w 7) (vB w 8) (vI w 13) (vI w 14) (vI w 15) (vI w 16) (vS w 17) (vL w 18) (vL w 19) (vI w 20) (vI w 21) (vI w 22) (vI w 23) (vS w 24) (fun n99 b100 b101 b102 n103 n104 n105 n106 s107 n108 n109 n110 n111 s112 l113=>K .ret (fillS X82o0e1 [jI w 0,jI w 1,jI w 2,jI w 3,jS w 4,jL w 5,jL w 6,jI w 7,.b (false),.i n99,.b b100,.b b101,.b b102,jI w 13,jI w 14,jI w 15,jI w 16,jS w 17,jL w 18,jL w 19,.i n103,.i n104,.i n105,.i n106,.s s107,.i n103,.i n104,.i n105,.i n106,.s s107,.i n108,.i n109,.i n110,.i n111,.s s112,.l l113])) (fun n114 v115 b116 v117 n118 n119 n120 n121 s122 l123=>K (.exit 0) (fillS X82o0e2 [jI w 0,jI w 1,jI w 2,jI w 3,jS w 4,jL w 5,jL w 6,jI w 7,jB w 8,.i n114,.v v115,.b b116,.v v117,jI w 13,jI w 14,jI w 15,jI w 16,jS w 17,jL w 18,jL w 19,jI w 20,jI w 21,jI w 22,jI w 23,jS w 24,.i n118,.i n119,.i n120,.i n121,.s s122,.l l123])) m (vI w 9) (vV w 10) (vV w 11) (vV w 12) (vI w 25) (vI w 26) (vI w 27) (vI w 28) (vS w 29) (vL w 30)
def ST82:LT:=[(0,sumT T82o0 (L82o0 KK))]
def b82o0:=bd c82 0
theorem q82o0:Qp L82o0 C82 ST82 b82o0 1 T82o0:=fun m w K=>by kernel_rfl
theorem o82o0:SumOk C82 KK (sumT T82o0 (L82o0 KK)) (.loop b82o0):=loop_ok T82o0 L82o0 (sums_of (t:=ST82) ⟨fun _ _ h=>absurd h (by decide),trivial⟩) (fun _ _=>rfl) q82o0
theorem r82:Rp (v82 (ta82 tu109 tu110)) C82 ST82 Tryz.f82 (sig 82) c82 A82:=fun w=>by kernel_rfl
theorem ok82:OkS sig (Gd G dep (dep 82)) 82 th82:=okM (v:=v82) r82 Tryz.func82 rfl ⟨sum_in (c':=.loop b82o0) (by kernel_rfl) (o82o0),trivial⟩ te82 ue82
def C47:=mkC 47
def c47:=gc Tryz.f47
def ST47:LT:=[]
theorem r47:Rp (v47 (ta47 tu81 tu82)) C47 ST47 Tryz.f47 (sig 47) c47 A47:=fun w=>by kernel_rfl
theorem ok47:OkS sig (Gd G dep (dep 47)) 47 th47:=okM (v:=v47) r47 Tryz.func47 rfl trivial te47 ue47
def C48:=mkC 48
def c48:=gc Tryz.f48
def ST48:LT:=[]
theorem r48:Rp (v48 t48) C48 ST48 Tryz.f48 (sig 48) c48 A48:=fun w=>by kernel_rfl
theorem ok48:OkS sig (Gd G dep (dep 48)) 48 th48:=okM (v:=v48) r48 Tryz.func48 rfl trivial te48 ue48
def C54:=mkC 54
def c54:=gc Tryz.f54
def ST54:LT:=[]
theorem r54:Rp (v54 t54) C54 ST54 Tryz.f54 (sig 54) c54 A54:=fun w=>by kernel_rfl
theorem ok54:OkS sig (Gd G dep (dep 54)) 54 th54:=okM (v:=v54) r54 Tryz.func54 rfl trivial te54 ue54
def C83:=mkC 83
def c83:=gc Tryz.f83
def ST83:LT:=[]
theorem r83:Rp (v83 t83) C83 ST83 Tryz.f83 (sig 83) c83 A83:=fun w=>by kernel_rfl
theorem ok83:OkS sig (Gd G dep (dep 83)) 83 th83:=okM (v:=v83) r83 Tryz.func83 rfl trivial te83 ue83
def C84:=mkC 84
def c84:=gc Tryz.f84
def T84o0:TSt:=⟨[dL,dI,dB,dI,.any,.any],[]⟩
def X84o0e1:TSt:=⟨[dL,dI,dB,dI,dB,dB],[]⟩
def X84o0e2:TSt:=⟨[dL,dI,dB,dI,dB,.any],[]⟩
def L84o0 (m:Nat) (w:List Vr) (K:KT):Rs:=l84o0 (vL w 0) (vI w 1) (vB w 2) (fun n19 b20 b21=>K .ret (fillS X84o0e1 [jL w 0,jI w 1,.b (true),.i n19,.b b20,.b b21])) (fun n22 b23 v24=>K (.exit 0) (fillS X84o0e2 [jL w 0,jI w 1,jB w 2,.i n22,.b b23,.v v24])) m (vI w 3) (vV w 4) (vV w 5)
def ST84:LT:=[(0,sumT T84o0 (L84o0 KK))]
def b84o0:=bd c84 0
theorem q84o0:Qp L84o0 C84 ST84 b84o0 1 T84o0:=fun m w K=>by kernel_rfl
theorem o84o0:SumOk C84 KK (sumT T84o0 (L84o0 KK)) (.loop b84o0):=loop_ok T84o0 L84o0 (sums_of (t:=ST84) ⟨fun _ _ h=>absurd h (by decide),trivial⟩) (fun _ _=>rfl) q84o0
theorem r84:Rp (v84 t84) C84 ST84 Tryz.f84 (sig 84) c84 A84:=fun w=>by kernel_rfl
theorem ok84:OkS sig (Gd G dep (dep 84)) 84 th84:=okM (v:=v84) r84 Tryz.func84 rfl ⟨sum_in (c':=.loop b84o0) (by kernel_rfl) (o84o0),trivial⟩ te84 ue84
def C49:=mkC 49
def c49:=gc Tryz.f49
def T49o8:TSt:=⟨[ag0,.ptr 64 0,dB,.undef,dI,dB,dI,dB,dB,.undef,.undef,dB,dB,.any,.any],[(64,bx2),(1925,.row 116 2)]⟩
def X49o8e1:TSt:=⟨[ag0,.ptr 64 0,dB,.undef,dI,dB,dI,dB,dB,.undef,.undef,dB,dB,dB,dB],[(64,bx2),(1925,.row 116 2)]⟩
def X49o8e2:TSt:=⟨[ag0,.ptr 64 0,dB,.undef,dI,dB,dI,dB,dB,.undef,.undef,dB,dB,dB,.any],[(64,bx2),(1925,.row 116 2)]⟩
def L49o8 (m:Nat) (w:List Vr) (K:KT):Rs:=la49o8 tu34 tu54 tu81 tu83 tu84 (vI w 0) (vI w 1) (vI w 2) (vI w 3) (vI w 4) (vI w 5) (vI w 6) (vI w 7) (vL w 8) (vI w 9) (vL w 10) (vL w 11) (vL w 12) (vB w 13) (vB w 15) (vI w 16) (vB w 17) (vB w 18) (vB w 19) (vB w 20) (vI w 23) (vI w 24) (vI w 25) (vI w 26) (vI w 27) (vI w 28) (vI w 29) (vI w 30) (vL w 31) (vI w 32) (vL w 33) (vL w 34) (vL w 35) (vL w 36) (fun n238 b239 b240=>K .ret (fillS X49o8e1 [jI w 0,jI w 1,jI w 2,jI w 3,jI w 4,jI w 5,jI w 6,jI w 7,jL w 8,jI w 9,jL w 10,jL w 11,jL w 12,.b (false),.i n238,jB w 15,jI w 16,jB w 17,jB w 18,jB w 19,jB w 20,.b b239,.b b240,jI w 23,jI w 24,jI w 25,jI w 26,jI w 27,jI w 28,jI w 29,jI w 30,jL w 31,jI w 32,jL w 33,jL w 34,jL w 35,jL w 36])) (fun n241 b242 v243=>K (.exit 3) (fillS X49o8e2 [jI w 0,jI w 1,jI w 2,jI w 3,jI w 4,jI w 5,jI w 6,jI w 7,jL w 8,jI w 9,jL w 10,jL w 11,jL w 12,jB w 13,.i n241,jB w 15,jI w 16,jB w 17,jB w 18,jB w 19,jB w 20,.b b242,.v v243,jI w 23,jI w 24,jI w 25,jI w 26,jI w 27,jI w 28,jI w 29,jI w 30,jL w 31,jI w 32,jL w 33,jL w 34,jL w 35,jL w 36])) m (vI w 14) (vV w 21) (vV w 22)
def T49o3:TSt:=⟨[ag0,.ptr 64 0,dB,dI,.undef,dB,dI,dB,dB,.any,.any,.undef,.undef,.undef,.undef],[(64,bx2),(1925,.row 116 2)]⟩
def X49o3e1:TSt:=⟨[ag0,.ptr 64 0,dB,dI,.undef,dB,dI,dB,dB,dB,dB,.undef,.undef,.undef,.undef],[(64,bx2),(1925,.row 116 2)]⟩
def X49o3e2:TSt:=⟨[ag0,.ptr 64 0,dB,dI,.undef,dB,dI,dB,dB,dB,.any,.undef,.undef,.undef,.undef],[(64,bx2),(1925,.row 116 2)]⟩
def L49o3 (m:Nat) (w:List Vr) (K:KT):Rs:=la49o3 tu34 tu54 tu81 tu83 tu84 (vI w 0) (vI w 1) (vI w 2) (vI w 3) (vI w 4) (vI w 5) (vI w 6) (vI w 7) (vL w 8) (vI w 9) (vL w 10) (vL w 11) (vL w 12) (vB w 13) (vB w 15) (vI w 16) (vB w 17) (vB w 18) (vI w 21) (vI w 22) (vI w 23) (vI w 24) (vI w 25) (vI w 26) (vI w 27) (vI w 28) (vL w 29) (vI w 30) (vL w 31) (vL w 32) (vL w 33) (vL w 34) (fun n117 b118 b119=>K .ret (fillS X49o3e1 [jI w 0,jI w 1,jI w 2,jI w 3,jI w 4,jI w 5,jI w 6,jI w 7,jL w 8,jI w 9,jL w 10,jL w 11,jL w 12,.b (false),.i n117,jB w 15,jI w 16,jB w 17,jB w 18,.b b118,.b b119,jI w 21,jI w 22,jI w 23,jI w 24,jI w 25,jI w 26,jI w 27,jI w 28,jL w 29,jI w 30,jL w 31,jL w 32,jL w 33,jL w 34])) (fun n120 b121 v122=>K (.exit 1) (fillS X49o3e2 [jI w 0,jI w 1,jI w 2,jI w 3,jI w 4,jI w 5,jI w 6,jI w 7,jL w 8,jI w 9,jL w 10,jL w 11,jL w 12,jB w 13,.i n120,jB w 15,jI w 16,jB w 17,jB w 18,.b b121,.v v122,jI w 21,jI w 22,jI w 23,jI w 24,jI w 25,jI w 26,jI w 27,jI w 28,jL w 29,jI w 30,jL w 31,jL w 32,jL w 33,jL w 34])) m (vI w 14) (vV w 19) (vV w 20)
def ST49:LT:=[(8,sumT T49o8 (L49o8 KK)),(3,sumT T49o3 (L49o3 KK))]
def b49o8:=bd c49 8
def b49o3:=bd c49 3
theorem q49o8:Qp L49o8 C49 ST49 b49o8 9 T49o8:=fun m w K=>by kernel_rfl
theorem o49o8:SumOk C49 KK (sumT T49o8 (L49o8 KK)) (.loop b49o8):=loop_ok T49o8 L49o8 (sums_of (t:=ST49) ⟨fun _ _ h=>absurd h (by decide),fun _ _ h=>absurd h (by decide),trivial⟩) (fun _ _=>rfl) q49o8
theorem q49o3:Qp L49o3 C49 ST49 b49o3 4 T49o3:=fun m w K=>by kernel_rfl
theorem o49o3:SumOk C49 KK (sumT T49o3 (L49o3 KK)) (.loop b49o3):=loop_ok T49o3 L49o3 (sums_of (t:=ST49) ⟨sum_out (by kernel_rfl),fun _ _ h=>absurd h (by decide),trivial⟩) (fun _ _=>rfl) q49o3
theorem r49:Rp (v49 (ta49 tu34 tu54 tu81 tu83 tu84)) C49 ST49 Tryz.f49 (sig 49) c49 A49:=fun w=>by kernel_rfl
theorem ok49:OkS sig (Gd G dep (dep 49)) 49 th49:=okM (v:=v49) r49 Tryz.func49 rfl ⟨sum_in (c':=.loop b49o8) (by kernel_rfl) (o49o8),sum_in (c':=.loop b49o3) (by kernel_rfl) (o49o3),trivial⟩ te49 ue49
theorem hk50:∀xs q,opt (th50 xs)=some q→False:=hole (fun w=>by unfold v50;rw [ue50];rfl)
theorem hk51:∀xs q,opt (th51 xs)=some q→False:=hole (fun w=>by unfold v51;rw [ue51];rfl)
theorem hk52:∀xs q,opt (th52 xs)=some q→False:=hole (fun w=>by unfold v52;rw [ue52];rfl)
theorem hk53:∀xs q,opt (th53 xs)=some q→False:=hole (fun w=>by unfold v53;rw [ue53];rfl)
def C16:=mkC 16
def c16:=gc Tryz.f16
def ST16:LT:=[]
theorem r16:Rp (v16 (ta16 tu34 tu47 tu48 tu49 tu50 tu51 tu52 tu53 tu54)) C16 ST16 Tryz.f16 (sig 16) c16 A16:=fun w=>by kernel_rfl
theorem ok16:OkS sig (Gd G dep (dep 16)) 16 th16:=okM (v:=v16) r16 Tryz.func16 rfl trivial te16 ue16
def C55:=mkC 55
def c55:=gc Tryz.f55
def ST55:LT:=[]
theorem r55:Rp (v55 (ta55 tu49 tu81)) C55 ST55 Tryz.f55 (sig 55) c55 A55:=fun w=>by kernel_rfl
theorem ok55:OkS sig (Gd G dep (dep 55)) 55 th55:=okM (v:=v55) r55 Tryz.func55 rfl trivial te55 ue55
def C120:=mkC 120
def c120:=gc Tryz.f120
def ST120:LT:=[]
theorem r120:Rp (v120 t120) C120 ST120 Tryz.f120 (sig 120) c120 A120:=fun w=>by kernel_rfl
theorem ok120:OkS sig (Gd G dep (dep 120)) 120 th120:=okM (v:=v120) r120 Tryz.func120 rfl trivial te120 ue120
def C91:=mkC 91
def c91:=gc Tryz.f91
def ST91:LT:=[]
theorem r91:Rp (v91 (ta91 tu120)) C91 ST91 Tryz.f91 (sig 91) c91 A91:=fun w=>by kernel_rfl
theorem ok91:OkS sig (Gd G dep (dep 91)) 91 th91:=okM (v:=v91) r91 Tryz.func91 rfl trivial te91 ue91
def C56:=mkC 56
def c56:=gc Tryz.f56
def T56o0:TSt:=⟨[.nils,.own 192,dI,.any],[(192,.row 94 5)]⟩
def X56o0e1:TSt:=⟨[.nils,.own 192,dI,dB],[(192,.row 94 5)]⟩
def L56o0 (m:Nat) (w:List Vr) (K:KT):Rs:=la56o0 tu91 (fun n9 b10 l11=>K (.exit 0) (fillS X56o0e1 [.i n9,.b b10,.l l11])) m (vI w 0) (vV w 1) (vL w 2)
def ST56:LT:=[(0,sumT T56o0 (L56o0 KK))]
def b56o0:=bd c56 0
theorem q56o0:Qp L56o0 C56 ST56 b56o0 1 T56o0:=fun m w K=>by kernel_rfl
theorem o56o0:SumOk C56 KK (sumT T56o0 (L56o0 KK)) (.loop b56o0):=loop_ok T56o0 L56o0 (sums_of (t:=ST56) ⟨fun _ _ h=>absurd h (by decide),trivial⟩) (fun _ _=>rfl) q56o0
theorem r56:Rp (v56 (ta56 tu91)) C56 ST56 Tryz.f56 (sig 56) c56 A56:=fun w=>by kernel_rfl
theorem ok56:OkS sig (Gd G dep (dep 56)) 56 th56:=okM (v:=v56) r56 Tryz.func56 rfl ⟨sum_in (c':=.loop b56o0) (by kernel_rfl) (o56o0),trivial⟩ te56 ue56
def C17:=mkC 17
def c17:=gc Tryz.f17
def ST17:LT:=[]
theorem r17:Rp (v17 (ta17 tu51 tu55 tu56)) C17 ST17 Tryz.f17 (sig 17) c17 A17:=fun w=>by kernel_rfl
theorem ok17:OkS sig (Gd G dep (dep 17)) 17 th17:=okM (v:=v17) r17 Tryz.func17 rfl trivial te17 ue17
def C5:=mkC 5
def c5:=gc Tryz.f5
def ST5:LT:=[]
theorem r5:Rp (v5 (ta5 tu15 tu16 tu17)) C5 ST5 Tryz.f5 (sig 5) c5 A5:=fun w=>by kernel_rfl
theorem ok5:OkS sig (Gd G dep (dep 5)) 5 th5:=okM (v:=v5) r5 Tryz.func5 rfl trivial te5 ue5
def C10:=mkC 10
def c10:=gc Tryz.f10
def T10o1:TSt:=⟨[dI,.ptr 128 0,dB,.ptr 256 0,dI,.undef,dB,.any],[(128,bx0),(256,bx1),(16385,.row 36 30)]⟩
def X10o1e1:TSt:=⟨[dI,.ptr 128 0,dB,.ptr 256 0,dI,.undef,dB,dB],[(128,bx0),(256,bx1),(16385,.row 36 30)]⟩
def L10o1 (m:Nat) (w:List Vr) (K:KT):Rs:=la10o1 tu5 tu34 (vI w 0) (vB w 1) (vB w 3) (vB w 5) (vB w 6) (fun n25 b26 l27=>K (.exit 0) (fillS X10o1e1 [jI w 0,jB w 1,.i n25,jB w 3,.b b26,jB w 5,jB w 6,.l l27])) m (vI w 2) (vV w 4) (vL w 7)
def ST10:LT:=[(1,sumT T10o1 (L10o1 KK))]
def b10o1:=bd c10 1
theorem q10o1:Qp L10o1 C10 ST10 b10o1 2 T10o1:=fun m w K=>by kernel_rfl
theorem o10o1:SumOk C10 KK (sumT T10o1 (L10o1 KK)) (.loop b10o1):=loop_ok T10o1 L10o1 (sums_of (t:=ST10) ⟨fun _ _ h=>absurd h (by decide),trivial⟩) (fun _ _=>rfl) q10o1
theorem r10:Rp (v10 (ta10 tu5 tu34)) C10 ST10 Tryz.f10 (sig 10) c10 A10:=fun w=>by kernel_rfl
theorem ok10:OkS sig (Gd G dep (dep 10)) 10 th10:=okM (v:=v10) r10 Tryz.func10 rfl ⟨sum_in (c':=.loop b10o1) (by kernel_rfl) (o10o1),trivial⟩ te10 ue10
def C18:=mkC 18
def c18:=gc Tryz.f18
def ST18:LT:=[]
theorem r18:Rp (v18 t18) C18 ST18 Tryz.f18 (sig 18) c18 A18:=fun w=>by kernel_rfl
theorem ok18:OkS sig (Gd G dep (dep 18)) 18 th18:=okM (v:=v18) r18 Tryz.func18 rfl trivial te18 ue18
def C20:=mkC 20
def c20:=gc Tryz.f20
def ST20:LT:=[]
theorem r20:Rp (v20 t20) C20 ST20 Tryz.f20 (sig 20) c20 A20:=fun w=>by kernel_rfl
theorem ok20:OkS sig (Gd G dep (dep 20)) 20 th20:=okM (v:=v20) r20 Tryz.func20 rfl trivial te20 ue20
def C130:=mkC 130
def c130:=gc Tryz.f130
def T130o2:TSt:=⟨[ag2,.ptr 64 0,dB,dI,.undef,dB,dB,dL,dI,dI,.any,.any],[(64,bx6)]⟩
def X130o2e1:TSt:=⟨[ag2,.ptr 64 0,dB,dI,.ptr 320 0,dB,dB,dL,dI,dI,dB,dB],[(64,bx6),(320,.box [dI,dS])]⟩
def X130o2e2:TSt:=⟨[ag2,.ptr 64 0,dB,dI,.undef,dB,dB,dL,dI,dI,dB,.any],[(64,bx6)]⟩
def L130o2 (m:Nat) (w:List Vr) (K:KT):Rs:=la130o2 tu18 (vI w 0) (vI w 1) (vI w 2) (vI w 3) (vS w 4) (vL w 5) (vB w 6) (vB w 8) (vB w 9) (vL w 10) (vI w 11) (vI w 15) (vI w 16) (vI w 17) (vI w 18) (vS w 19) (vL w 20) (fun n68 n69 b70 b71 n72 s73=>K .ret (fillS X130o2e1 [jI w 0,jI w 1,jI w 2,jI w 3,jS w 4,jL w 5,.b (false),.i n68,jB w 8,jB w 9,jL w 10,jI w 11,.i n69,.b b70,.b b71,jI w 15,jI w 16,jI w 17,jI w 18,jS w 19,jL w 20,.i n72,.s s73])) (fun n74 n75 b76 v77=>K (.exit 0) (fillS X130o2e2 [jI w 0,jI w 1,jI w 2,jI w 3,jS w 4,jL w 5,jB w 6,.i n74,jB w 8,jB w 9,jL w 10,jI w 11,.i n75,.b b76,.v v77,jI w 15,jI w 16,jI w 17,jI w 18,jS w 19,jL w 20])) m (vI w 7) (vI w 12) (vV w 13) (vV w 14)
def ST130:LT:=[(2,sumT T130o2 (L130o2 KK))]
def b130o2:=bd c130 2
theorem q130o2:Qp L130o2 C130 ST130 b130o2 3 T130o2:=fun m w K=>by kernel_rfl
theorem o130o2:SumOk C130 KK (sumT T130o2 (L130o2 KK)) (.loop b130o2):=loop_ok T130o2 L130o2 (sums_of (t:=ST130) ⟨fun _ _ h=>absurd h (by decide),trivial⟩) (fun _ _=>rfl) q130o2
theorem r130:Rp (v130 (ta130 tu18)) C130 ST130 Tryz.f130 (sig 130) c130 A130:=fun w=>by kernel_rfl
theorem ok130:OkS sig (Gd G dep (dep 130)) 130 th130:=okM (v:=v130) r130 Tryz.func130 rfl ⟨sum_in (c':=.loop b130o2) (by kernel_rfl) (o130o2),trivial⟩ te130 ue130
def C129:=mkC 129
def c129:=gc Tryz.f129
def ST129:LT:=[]
theorem r129:Rp (v129 t129) C129 ST129 Tryz.f129 (sig 129) c129 A129:=fun w=>by kernel_rfl
theorem ok129:OkS sig (Gd G dep (dep 129)) 129 th129:=okM (v:=v129) r129 Tryz.func129 rfl trivial te129 ue129
def C169:=mkC 169
def c169:=gc Tryz.f169
def ST169:LT:=[]
theorem r169:Rp (v169 (ta169 tu18)) C169 ST169 Tryz.f169 (sig 169) c169 A169:=fun w=>by kernel_rfl
theorem ok169:OkS sig (Gd G dep (dep 169)) 169 th169:=okM (v:=v169) r169 Tryz.func169 rfl trivial te169 ue169
def C183:=mkC 183
def c183:=gc Tryz.f183
def ST183:LT:=[]
theorem r183:Rp (v183 t183) C183 ST183 Tryz.f183 (sig 183) c183 A183:=fun w=>by kernel_rfl
theorem ok183:OkS sig (Gd G dep (dep 183)) 183 th183:=okM (v:=v183) r183 Tryz.func183 rfl trivial te183 ue183
def C170:=mkC 170
def c170:=gc Tryz.f170
def ST170:LT:=[]
theorem r170:Rp (v170 (ta170 tu18 tu183)) C170 ST170 Tryz.f170 (sig 170) c170 A170:=fun w=>by kernel_rfl
theorem ok170:OkS sig (Gd G dep (dep 170)) 170 th170:=okM (v:=v170) r170 Tryz.func170 rfl trivial te170 ue170
def C150:=mkC 150
def c150:=gc Tryz.f150
def ST150:LT:=[]
theorem r150:Rp (v150 (ta150 tu169 tu170)) C150 ST150 Tryz.f150 (sig 150) c150 A150:=fun w=>by kernel_rfl
theorem ok150:OkS sig (Gd G dep (dep 150)) 150 th150:=okM (v:=v150) r150 Tryz.func150 rfl trivial te150 ue150
def C121:=mkC 121
def c121:=gc Tryz.f121
def T121o1:TSt:=⟨[.pv [.i .i64,.i .i64,.i .i64,.i .i64,.s,.l,.l] 0,.ptr 128 0,dB,.ptr 256 0,.undef,dB,dL,dI,dI,.any,.any],[(128,bx3),(256,bx4),(16390,.row 116 2)]⟩
def X121o1e1:TSt:=⟨[.pv [.i .i64,.i .i64,.i .i64,.i .i64,.s,.l,.l] 0,.ptr 128 0,dB,.ptr 256 0,.ptr 384 0,dB,dL,dI,dI,dB,dB],[(128,bx3),(256,bx4),(384,.box [dI,dI,dI,dI,dS]),(16390,.row 116 2)]⟩
def X121o1e2:TSt:=⟨[.pv [.i .i64,.i .i64,.i .i64,.i .i64,.s,.l,.l] 0,.ptr 128 0,dB,.ptr 256 0,.undef,dB,dL,dI,dI,dB,.any],[(128,bx3),(256,bx4),(16390,.row 116 2)]⟩
def L121o1 (m:Nat) (w:List Vr) (K:KT):Rs:=la121o1 tu129 tu130 tu150 (vI w 0) (vI w 1) (vI w 2) (vI w 3) (vS w 4) (vL w 5) (vL w 6) (vB w 7) (vB w 8) (vL w 9) (vI w 10) (vI w 14) (vI w 15) (vI w 16) (vI w 17) (vS w 18) (fun n81 b82 b83 s84 n85 n86 n87 n88 s89 n90 n91 n92 n93 s94 l95=>K .ret (fillS X121o1e1 [jI w 0,jI w 1,jI w 2,jI w 3,jS w 4,jL w 5,jL w 6,.b (false),jB w 8,jL w 9,jI w 10,.i n81,.b b82,.b b83,.i ((0:Int)),.i ((0:Int)),.i ((0:Int)),.i ((0:Int)),.s s84,.i n85,.i n86,.i n87,.i n88,.s s89,.i n90,.i n91,.i n92,.i n93,.s s94,.l l95])) (fun n96 b97 v98 n99 n100 n101 n102 s103 l104=>K (.exit 0) (fillS X121o1e2 [jI w 0,jI w 1,jI w 2,jI w 3,jS w 4,jL w 5,jL w 6,jB w 7,jB w 8,jL w 9,jI w 10,.i n96,.b b97,.v v98,jI w 14,jI w 15,jI w 16,jI w 17,jS w 18,.i n99,.i n100,.i n101,.i n102,.s s103,.l l104])) m (vI w 11) (vV w 12) (vV w 13) (vI w 19) (vI w 20) (vI w 21) (vI w 22) (vS w 23) (vL w 24)
def ST121:LT:=[(1,sumT T121o1 (L121o1 KK))]
def b121o1:=bd c121 1
theorem q121o1:Qp L121o1 C121 ST121 b121o1 2 T121o1:=fun m w K=>by kernel_rfl
theorem o121o1:SumOk C121 KK (sumT T121o1 (L121o1 KK)) (.loop b121o1):=loop_ok T121o1 L121o1 (sums_of (t:=ST121) ⟨fun _ _ h=>absurd h (by decide),trivial⟩) (fun _ _=>rfl) q121o1
theorem r121:Rp (v121 (ta121 tu129 tu130 tu150)) C121 ST121 Tryz.f121 (sig 121) c121 A121:=fun w=>by kernel_rfl
theorem ok121:OkS sig (Gd G dep (dep 121)) 121 th121:=okM (v:=v121) r121 Tryz.func121 rfl ⟨sum_in (c':=.loop b121o1) (by kernel_rfl) (o121o1),trivial⟩ te121 ue121
def C92:=mkC 92
def c92:=gc Tryz.f92
def ST92:LT:=[]
theorem r92:Rp (v92 (ta92 tu121)) C92 ST92 Tryz.f92 (sig 92) c92 A92:=fun w=>by kernel_rfl
theorem ok92:OkS sig (Gd G dep (dep 92)) 92 th92:=okM (v:=v92) r92 Tryz.func92 rfl trivial te92 ue92
theorem hk93:∀xs q,opt (th93 xs)=some q→False:=hole (fun w=>by unfold v93;rw [ue93];rfl)
def C94:=mkC 94
def c94:=gc Tryz.f94
def ST94:LT:=[]
theorem r94:Rp (v94 t94) C94 ST94 Tryz.f94 (sig 94) c94 A94:=fun w=>by kernel_rfl
theorem ok94:OkS sig (Gd G dep (dep 94)) 94 th94:=okM (v:=v94) r94 Tryz.func94 rfl trivial te94 ue94
def C57:=mkC 57
def c57:=gc Tryz.f57
def ST57:LT:=[]
theorem r57:Rp (v57 (ta57 tu18 tu92 tu93 tu94)) C57 ST57 Tryz.f57 (sig 57) c57 A57:=fun w=>by kernel_rfl
theorem ok57:OkS sig (Gd G dep (dep 57)) 57 th57:=okM (v:=v57) r57 Tryz.func57 rfl trivial te57 ue57
def C127:=mkC 127
def c127:=gc Tryz.f127
def ST127:LT:=[]
theorem r127:Rp (v127 t127) C127 ST127 Tryz.f127 (sig 127) c127 A127:=fun w=>by kernel_rfl
theorem ok127:OkS sig (Gd G dep (dep 127)) 127 th127:=okM (v:=v127) r127 Tryz.func127 rfl trivial te127 ue127
def C95:=mkC 95
def c95:=gc Tryz.f95
def ST95:LT:=[]
theorem r95:Rp (v95 (ta95 tu127)) C95 ST95 Tryz.f95 (sig 95) c95 A95:=fun w=>by kernel_rfl
theorem ok95:OkS sig (Gd G dep (dep 95)) 95 th95:=okM (v:=v95) r95 Tryz.func95 rfl trivial te95 ue95
def C157:=mkC 157
def c157:=gc Tryz.f157
def T157o0:TSt:=⟨[.agg [dI,dL],.ptr 64 0,.ptr 128 0,.ptr 192 0,.undef,dL,dI,dI,.any],[(64,.box [dI,dL]),(128,.box [dI,.nils]),(192,.box [dI,.own 12290]),(12290,.row 143 9)]⟩
def X157o0e1:TSt:=⟨[.agg [dI,dL],.ptr 64 0,.ptr 128 0,.ptr 192 0,.undef,dL,dI,dI,dB],[(64,.box [dI,dL]),(128,.box [dI,.nils]),(192,.box [dI,.own 12290]),(12290,.row 143 9)]⟩
def L157o0 (m:Nat) (w:List Vr) (K:KT):Rs:=l157o0 (vI w 0) (vL w 1) (vL w 2) (vI w 3) (vI w 6) (vL w 7) (vI w 8) (vI w 9) (fun n35 b36 l37=>K (.exit 0) (fillS X157o0e1 [jI w 0,jL w 1,jL w 2,jI w 3,.i n35,.b b36,jI w 6,jL w 7,jI w 8,jI w 9,.l l37])) m (vI w 4) (vV w 5) (vL w 10)
def ST157:LT:=[(0,sumT T157o0 (L157o0 KK))]
def b157o0:=bd c157 0
theorem q157o0:Qp L157o0 C157 ST157 b157o0 1 T157o0:=fun m w K=>by kernel_rfl
theorem o157o0:SumOk C157 KK (sumT T157o0 (L157o0 KK)) (.loop b157o0):=loop_ok T157o0 L157o0 (sums_of (t:=ST157) ⟨fun _ _ h=>absurd h (by decide),trivial⟩) (fun _ _=>rfl) q157o0
theorem r157:Rp (v157 t157) C157 ST157 Tryz.f157 (sig 157) c157 A157:=fun w=>by kernel_rfl
theorem ok157:OkS sig (Gd G dep (dep 157)) 157 th157:=okM (v:=v157) r157 Tryz.func157 rfl ⟨sum_in (c':=.loop b157o0) (by kernel_rfl) (o157o0),trivial⟩ te157 ue157
def C128:=mkC 128
def c128:=gc Tryz.f128
def ST128:LT:=[]
theorem r128:Rp (v128 (ta128 tu157)) C128 ST128 Tryz.f128 (sig 128) c128 A128:=fun w=>by kernel_rfl
theorem ok128:OkS sig (Gd G dep (dep 128)) 128 th128:=okM (v:=v128) r128 Tryz.func128 rfl trivial te128 ue128
def C96:=mkC 96
def c96:=gc Tryz.f96
def T96o0:TSt:=⟨[dL,.nils,.own 252,.undef,dL,dI,dI,.any],[(252,.row 94 5)]⟩
def X96o0e1:TSt:=⟨[dL,.nils,.own 252,.undef,dL,dI,dI,dB],[(252,.row 94 5)]⟩
def L96o0 (m:Nat) (w:List Vr) (K:KT):Rs:=la96o0 tu128 (vL w 0) (vL w 1) (vI w 2) (fun n19 b20 l21=>K (.exit 0) (fillS X96o0e1 [jL w 0,jL w 1,jI w 2,.i n19,.b b20,.l l21])) m (vI w 3) (vV w 4) (vL w 5)
def ST96:LT:=[(0,sumT T96o0 (L96o0 KK))]
def b96o0:=bd c96 0
theorem q96o0:Qp L96o0 C96 ST96 b96o0 1 T96o0:=fun m w K=>by kernel_rfl
theorem o96o0:SumOk C96 KK (sumT T96o0 (L96o0 KK)) (.loop b96o0):=loop_ok T96o0 L96o0 (sums_of (t:=ST96) ⟨fun _ _ h=>absurd h (by decide),trivial⟩) (fun _ _=>rfl) q96o0
theorem r96:Rp (v96 (ta96 tu128)) C96 ST96 Tryz.f96 (sig 96) c96 A96:=fun w=>by kernel_rfl
theorem ok96:OkS sig (Gd G dep (dep 96)) 96 th96:=okM (v:=v96) r96 Tryz.func96 rfl ⟨sum_in (c':=.loop b96o0) (by kernel_rfl) (o96o0),trivial⟩ te96 ue96
def C97:=mkC 97
def c97:=gc Tryz.f97
def ST97:LT:=[]
theorem r97:Rp (v97 (ta97 tu129)) C97 ST97 Tryz.f97 (sig 97) c97 A97:=fun w=>by kernel_rfl
theorem ok97:OkS sig (Gd G dep (dep 97)) 97 th97:=okM (v:=v97) r97 Tryz.func97 rfl trivial te97 ue97
def C58:=mkC 58
def c58:=gc Tryz.f58
def ST58:LT:=[]
theorem r58:Rp (v58 (ta58 tu95 tu96 tu97)) C58 ST58 Tryz.f58 (sig 58) c58 A58:=fun w=>by kernel_rfl
theorem ok58:OkS sig (Gd G dep (dep 58)) 58 th58:=okM (v:=v58) r58 Tryz.func58 rfl trivial te58 ue58
def C125:=mkC 125
def c125:=gc Tryz.f125
def ST125:LT:=[]
theorem r125:Rp (v125 t125) C125 ST125 Tryz.f125 (sig 125) c125 A125:=fun w=>by kernel_rfl
theorem ok125:OkS sig (Gd G dep (dep 125)) 125 th125:=okM (v:=v125) r125 Tryz.func125 rfl trivial te125 ue125
def C151:=mkC 151
def c151:=gc Tryz.f151
def ST151:LT:=[]
theorem r151:Rp (v151 t151) C151 ST151 Tryz.f151 (sig 151) c151 A151:=fun w=>by kernel_rfl
theorem ok151:OkS sig (Gd G dep (dep 151)) 151 th151:=okM (v:=v151) r151 Tryz.func151 rfl trivial te151 ue151
def C184:=mkC 184
def c184:=gc Tryz.f184
def T184o0:TSt:=⟨[dL,dI,dI,.any,dI,dI,.any,.any],[]⟩
def X184o0e1:TSt:=⟨[dL,dI,dI,dI,dI,dI,dB,dB],[]⟩
def X184o0e2:TSt:=⟨[dL,dI,dI,.any,dI,dI,dB,.any],[]⟩
def L184o0 (m:Nat) (w:List Vr) (K:KT):Rs:=l184o0 (vL w 0) (vI w 1) (vI w 2) (vI w 4) (fun n24 b25 b26=>K .ret (fillS X184o0e1 [jL w 0,jI w 1,.i n24,.i n24,jI w 4,.i n24,.b b25,.b b26])) (fun v27 n28 b29 v30=>K (.exit 0) (fillS X184o0e2 [jL w 0,jI w 1,jI w 2,.v v27,jI w 4,.i n28,.b b29,.v v30])) m (vV w 3) (vI w 5) (vV w 6) (vV w 7)
def ST184:LT:=[(0,sumT T184o0 (L184o0 KK))]
def b184o0:=bd c184 0
theorem q184o0:Qp L184o0 C184 ST184 b184o0 1 T184o0:=fun m w K=>by kernel_rfl
theorem o184o0:SumOk C184 KK (sumT T184o0 (L184o0 KK)) (.loop b184o0):=loop_ok T184o0 L184o0 (sums_of (t:=ST184) ⟨fun _ _ h=>absurd h (by decide),trivial⟩) (fun _ _=>rfl) q184o0
theorem r184:Rp (v184 t184) C184 ST184 Tryz.f184 (sig 184) c184 A184:=fun w=>by kernel_rfl
theorem ok184:OkS sig (Gd G dep (dep 184)) 184 th184:=okM (v:=v184) r184 Tryz.func184 rfl ⟨sum_in (c':=.loop b184o0) (by kernel_rfl) (o184o0),trivial⟩ te184 ue184
def C171:=mkC 171
def c171:=gc Tryz.f171
def ST171:LT:=[]
theorem r171:Rp (v171 (ta171 tu184)) C171 ST171 Tryz.f171 (sig 171) c171 A171:=fun w=>by kernel_rfl
theorem ok171:OkS sig (Gd G dep (dep 171)) 171 th171:=okM (v:=v171) r171 Tryz.func171 rfl trivial te171 ue171
def C172:=mkC 172
def c172:=gc Tryz.f172
def ST172:LT:=[]
theorem r172:Rp (v172 t172) C172 ST172 Tryz.f172 (sig 172) c172 A172:=fun w=>by kernel_rfl
theorem ok172:OkS sig (Gd G dep (dep 172)) 172 th172:=okM (v:=v172) r172 Tryz.func172 rfl trivial te172 ue172
def C152:=mkC 152
def c152:=gc Tryz.f152
def T152o0:TSt:=⟨[.pv [.i .i64,.i .i64,.i .i64,.i .i64,.i .i64,.i .i64,.i .i64,.i .i64,.l,.i .i64,.l,.l,.l] 0,dB,.any,.any,dL,dI,dI,.any,.any],[]⟩
def X152o0e1:TSt:=⟨[.pv [.i .i64,.i .i64,.i .i64,.i .i64,.i .i64,.i .i64,.i .i64,.i .i64,.l,.i .i64,.l,.l,.l] 0,dB,dI,dI,dL,dI,dI,dB,dB],[]⟩
def X152o0e2:TSt:=⟨[.pv [.i .i64,.i .i64,.i .i64,.i .i64,.i .i64,.i .i64,.i .i64,.i .i64,.l,.i .i64,.l,.l,.l] 0,dB,.any,.any,dL,dI,dI,dB,.any],[]⟩
def L152o0 (m:Nat) (w:List Vr) (K:KT):Rs:=la152o0 tu18 tu171 tu172 (vI w 0) (vI w 1) (vI w 2) (vI w 3) (vI w 4) (vI w 5) (vI w 6) (vI w 7) (vL w 8) (vI w 9) (vL w 10) (vL w 11) (vL w 12) (vB w 13) (vL w 16) (vI w 17) (fun n73 n74 b75 b76=>K .ret (fillS X152o0e1 [jI w 0,jI w 1,jI w 2,jI w 3,jI w 4,jI w 5,jI w 6,jI w 7,jL w 8,jI w 9,jL w 10,jL w 11,jL w 12,.b (false),.i n73,.i n74,jL w 16,jI w 17,.i n73,.b b75,.b b76])) (fun v77 v78 n79 b80 v81=>K (.exit 0) (fillS X152o0e2 [jI w 0,jI w 1,jI w 2,jI w 3,jI w 4,jI w 5,jI w 6,jI w 7,jL w 8,jI w 9,jL w 10,jL w 11,jL w 12,jB w 13,.v v77,.v v78,jL w 16,jI w 17,.i n79,.b b80,.v v81])) m (vV w 14) (vV w 15) (vI w 18) (vV w 19) (vV w 20)
def ST152:LT:=[(0,sumT T152o0 (L152o0 KK))]
def b152o0:=bd c152 0
theorem q152o0:Qp L152o0 C152 ST152 b152o0 1 T152o0:=fun m w K=>by kernel_rfl
theorem o152o0:SumOk C152 KK (sumT T152o0 (L152o0 KK)) (.loop b152o0):=loop_ok T152o0 L152o0 (sums_of (t:=ST152) ⟨fun _ _ h=>absurd h (by decide),trivial⟩) (fun _ _=>rfl) q152o0
theorem r152:Rp (v152 (ta152 tu18 tu171 tu172)) C152 ST152 Tryz.f152 (sig 152) c152 A152:=fun w=>by kernel_rfl
theorem ok152:OkS sig (Gd G dep (dep 152)) 152 th152:=okM (v:=v152) r152 Tryz.func152 rfl ⟨sum_in (c':=.loop b152o0) (by kernel_rfl) (o152o0),trivial⟩ te152 ue152
def C153:=mkC 153
def c153:=gc Tryz.f153
def T153o1:TSt:=⟨[.pv [.i .i64,.i .i64,.i .i64,.i .i64,.i .i64,.i .i64,.i .i64,.i .i64,.l,.i .i64,.l,.l,.l] 0,dB,.any,.any,dB,dL,dI,dI,.any,.any],[]⟩
def X153o1e1:TSt:=⟨[.pv [.i .i64,.i .i64,.i .i64,.i .i64,.i .i64,.i .i64,.i .i64,.i .i64,.l,.i .i64,.l,.l,.l] 0,dB,dI,dI,dB,dL,dI,dI,dB,dB],[]⟩
def X153o1e2:TSt:=⟨[.pv [.i .i64,.i .i64,.i .i64,.i .i64,.i .i64,.i .i64,.i .i64,.i .i64,.l,.i .i64,.l,.l,.l] 0,dB,.any,.any,dB,dL,dI,dI,dB,.any],[]⟩
def L153o1 (m:Nat) (w:List Vr) (K:KT):Rs:=la153o1 tu151 (vI w 0) (vI w 1) (vI w 2) (vI w 3) (vI w 4) (vI w 5) (vI w 6) (vI w 7) (vL w 8) (vI w 9) (vL w 10) (vL w 11) (vL w 12) (vB w 13) (vB w 16) (vL w 17) (vI w 18) (fun n76 n77 b78 b79=>K .ret (fillS X153o1e1 [jI w 0,jI w 1,jI w 2,jI w 3,jI w 4,jI w 5,jI w 6,jI w 7,jL w 8,jI w 9,jL w 10,jL w 11,jL w 12,.b (false),.i n76,.i n77,jB w 16,jL w 17,jI w 18,.i n76,.b b78,.b b79])) (fun v80 v81 n82 b83 v84=>K (.exit 0) (fillS X153o1e2 [jI w 0,jI w 1,jI w 2,jI w 3,jI w 4,jI w 5,jI w 6,jI w 7,jL w 8,jI w 9,jL w 10,jL w 11,jL w 12,jB w 13,.v v80,.v v81,jB w 16,jL w 17,jI w 18,.i n82,.b b83,.v v84])) m (vV w 14) (vV w 15) (vI w 19) (vV w 20) (vV w 21)
def ST153:LT:=[(1,sumT T153o1 (L153o1 KK))]
def b153o1:=bd c153 1
theorem q153o1:Qp L153o1 C153 ST153 b153o1 2 T153o1:=fun m w K=>by kernel_rfl
theorem o153o1:SumOk C153 KK (sumT T153o1 (L153o1 KK)) (.loop b153o1):=loop_ok T153o1 L153o1 (sums_of (t:=ST153) ⟨fun _ _ h=>absurd h (by decide),trivial⟩) (fun _ _=>rfl) q153o1
theorem r153:Rp (v153 (ta153 tu151)) C153 ST153 Tryz.f153 (sig 153) c153 A153:=fun w=>by kernel_rfl
theorem ok153:OkS sig (Gd G dep (dep 153)) 153 th153:=okM (v:=v153) r153 Tryz.func153 rfl ⟨sum_in (c':=.loop b153o1) (by kernel_rfl) (o153o1),trivial⟩ te153 ue153
def C122:=mkC 122
def c122:=gc Tryz.f122
def ST122:LT:=[]
theorem r122:Rp (v122 (ta122 tu18 tu125 tu130 tu151 tu152 tu153)) C122 ST122 Tryz.f122 (sig 122) c122 A122:=fun w=>by kernel_rfl
theorem ok122:OkS sig (Gd G dep (dep 122)) 122 th122:=okM (v:=v122) r122 Tryz.func122 rfl trivial te122 ue122
def C98:=mkC 98
def c98:=gc Tryz.f98
def ST98:LT:=[]
theorem r98:Rp (v98 (ta98 tu122 tu130)) C98 ST98 Tryz.f98 (sig 98) c98 A98:=fun w=>by kernel_rfl
theorem ok98:OkS sig (Gd G dep (dep 98)) 98 th98:=okM (v:=v98) r98 Tryz.func98 rfl trivial te98 ue98
def C158:=mkC 158
def c158:=gc Tryz.f158
def ST158:LT:=[]
theorem r158:Rp (v158 t158) C158 ST158 Tryz.f158 (sig 158) c158 A158:=fun w=>by kernel_rfl
theorem ok158:OkS sig (Gd G dep (dep 158)) 158 th158:=okM (v:=v158) r158 Tryz.func158 rfl trivial te158 ue158
def C131:=mkC 131
def c131:=gc Tryz.f131
def ST131:LT:=[]
theorem r131:Rp (v131 (ta131 tu158)) C131 ST131 Tryz.f131 (sig 131) c131 A131:=fun w=>by kernel_rfl
theorem ok131:OkS sig (Gd G dep (dep 131)) 131 th131:=okM (v:=v131) r131 Tryz.func131 rfl trivial te131 ue131
def C99:=mkC 99
def c99:=gc Tryz.f99
def T99o0:TSt:=⟨[.nils,.own 128,dI,.any],[(128,.row 94 5)]⟩
def X99o0e1:TSt:=⟨[.nils,.own 128,dI,dB],[(128,.row 94 5)]⟩
def L99o0 (m:Nat) (w:List Vr) (K:KT):Rs:=la99o0 tu131 (fun n9 b10 l11=>K (.exit 0) (fillS X99o0e1 [.i n9,.b b10,.l l11])) m (vI w 0) (vV w 1) (vL w 2)
def ST99:LT:=[(0,sumT T99o0 (L99o0 KK))]
def b99o0:=bd c99 0
theorem q99o0:Qp L99o0 C99 ST99 b99o0 1 T99o0:=fun m w K=>by kernel_rfl
theorem o99o0:SumOk C99 KK (sumT T99o0 (L99o0 KK)) (.loop b99o0):=loop_ok T99o0 L99o0 (sums_of (t:=ST99) ⟨fun _ _ h=>absurd h (by decide),trivial⟩) (fun _ _=>rfl) q99o0
theorem r99:Rp (v99 (ta99 tu131)) C99 ST99 Tryz.f99 (sig 99) c99 A99:=fun w=>by kernel_rfl
theorem ok99:OkS sig (Gd G dep (dep 99)) 99 th99:=okM (v:=v99) r99 Tryz.func99 rfl ⟨sum_in (c':=.loop b99o0) (by kernel_rfl) (o99o0),trivial⟩ te99 ue99
theorem hk100:∀xs q,opt (th100 xs)=some q→False:=hole (fun w=>by unfold v100;rw [ue100];rfl)
def C59:=mkC 59
def c59:=gc Tryz.f59
def ST59:LT:=[]
theorem r59:Rp (v59 (ta59 tu98 tu99 tu100)) C59 ST59 Tryz.f59 (sig 59) c59 A59:=fun w=>by kernel_rfl
theorem ok59:OkS sig (Gd G dep (dep 59)) 59 th59:=okM (v:=v59) r59 Tryz.func59 rfl trivial te59 ue59
def C19:=mkC 19
def c19:=gc Tryz.f19
def ST19:LT:=[]
theorem r19:Rp (v19 (ta19 tu57 tu58 tu59)) C19 ST19 Tryz.f19 (sig 19) c19 A19:=fun w=>by kernel_rfl
theorem ok19:OkS sig (Gd G dep (dep 19)) 19 th19:=okM (v:=v19) r19 Tryz.func19 rfl trivial te19 ue19
def C6:=mkC 6
def c6:=gc Tryz.f6
def ST6:LT:=[]
theorem r6:Rp (v6 (ta6 tu18 tu19 tu20)) C6 ST6 Tryz.f6 (sig 6) c6 A6:=fun w=>by kernel_rfl
theorem ok6:OkS sig (Gd G dep (dep 6)) 6 th6:=okM (v:=v6) r6 Tryz.func6 rfl trivial te6 ue6
def C11:=mkC 11
def c11:=gc Tryz.f11
def T11o1:TSt:=⟨[dI,.ptr 128 0,dB,.ptr 256 0,.any,.undef,dB,dI,dI,.any],[(128,bx0),(256,bx1),(16385,.row 36 30)]⟩
def X11o1e1:TSt:=⟨[dI,.ptr 128 0,dB,.ptr 256 0,.any,.undef,dB,dI,dI,dB],[(128,bx0),(256,bx1),(16385,.row 36 30)]⟩
def L11o1 (m:Nat) (w:List Vr) (K:KT):Rs:=la11o1 tu6 tu18 (vI w 0) (vB w 1) (vB w 3) (vI w 4) (vB w 7) (vB w 8) (fun v30 n31 b32 l33=>K (.exit 0) (fillS X11o1e1 [jI w 0,jB w 1,.v v30,jB w 3,jI w 4,.i n31,.b b32,jB w 7,jB w 8,.l l33])) m (vV w 2) (vI w 5) (vV w 6) (vL w 9)
def ST11:LT:=[(1,sumT T11o1 (L11o1 KK))]
def b11o1:=bd c11 1
theorem q11o1:Qp L11o1 C11 ST11 b11o1 2 T11o1:=fun m w K=>by kernel_rfl
theorem o11o1:SumOk C11 KK (sumT T11o1 (L11o1 KK)) (.loop b11o1):=loop_ok T11o1 L11o1 (sums_of (t:=ST11) ⟨fun _ _ h=>absurd h (by decide),trivial⟩) (fun _ _=>rfl) q11o1
theorem r11:Rp (v11 (ta11 tu6 tu18)) C11 ST11 Tryz.f11 (sig 11) c11 A11:=fun w=>by kernel_rfl
theorem ok11:OkS sig (Gd G dep (dep 11)) 11 th11:=okM (v:=v11) r11 Tryz.func11 rfl ⟨sum_in (c':=.loop b11o1) (by kernel_rfl) (o11o1),trivial⟩ te11 ue11
def C80:=mkC 80
def c80:=gc Tryz.f80
def ST80:LT:=[]
theorem r80:Rp (v80 t80) C80 ST80 Tryz.f80 (sig 80) c80 A80:=fun w=>by kernel_rfl
theorem ok80:OkS sig (Gd G dep (dep 80)) 80 th80:=okM (v:=v80) r80 Tryz.func80 rfl trivial te80 ue80
def C38:=mkC 38
def c38:=gc Tryz.f38
def T38o1:TSt:=⟨[dL,dL,dB,dI,dB,.any,.any],[]⟩
def X38o1e1:TSt:=⟨[dL,dL,dB,dI,dB,dB,dB],[]⟩
def X38o1e2:TSt:=⟨[dL,dL,dB,dI,dB,dB,.any],[]⟩
def L38o1 (m:Nat) (w:List Vr) (K:KT):Rs:=la38o1 tu80 (vL w 0) (vL w 1) (vB w 2) (vB w 4) (fun n22 b23 b24=>K .ret (fillS X38o1e1 [jL w 0,jL w 1,.b (false),.i n22,jB w 4,.b b23,.b b24])) (fun n25 b26 v27=>K (.exit 0) (fillS X38o1e2 [jL w 0,jL w 1,jB w 2,.i n25,jB w 4,.b b26,.v v27])) m (vI w 3) (vV w 5) (vV w 6)
def ST38:LT:=[(1,sumT T38o1 (L38o1 KK))]
def b38o1:=bd c38 1
theorem q38o1:Qp L38o1 C38 ST38 b38o1 2 T38o1:=fun m w K=>by kernel_rfl
theorem o38o1:SumOk C38 KK (sumT T38o1 (L38o1 KK)) (.loop b38o1):=loop_ok T38o1 L38o1 (sums_of (t:=ST38) ⟨fun _ _ h=>absurd h (by decide),trivial⟩) (fun _ _=>rfl) q38o1
theorem r38:Rp (v38 (ta38 tu80)) C38 ST38 Tryz.f38 (sig 38) c38 A38:=fun w=>by kernel_rfl
theorem ok38:OkS sig (Gd G dep (dep 38)) 38 th38:=okM (v:=v38) r38 Tryz.func38 rfl ⟨sum_in (c':=.loop b38o1) (by kernel_rfl) (o38o1),trivial⟩ te38 ue38
def C60:=mkC 60
def c60:=gc Tryz.f60
def T60o1:TSt:=⟨[dL,dL,dB,dI,dB,.any,.any],[]⟩
def X60o1e1:TSt:=⟨[dL,dL,dB,dI,dB,dB,dB],[]⟩
def X60o1e2:TSt:=⟨[dL,dL,dB,dI,dB,dB,.any],[]⟩
def L60o1 (m:Nat) (w:List Vr) (K:KT):Rs:=l60o1 (vL w 0) (vL w 1) (vB w 2) (vB w 4) (fun n22 b23 b24=>K .ret (fillS X60o1e1 [jL w 0,jL w 1,.b (false),.i n22,jB w 4,.b b23,.b b24])) (fun n25 b26 v27=>K (.exit 0) (fillS X60o1e2 [jL w 0,jL w 1,jB w 2,.i n25,jB w 4,.b b26,.v v27])) m (vI w 3) (vV w 5) (vV w 6)
def ST60:LT:=[(1,sumT T60o1 (L60o1 KK))]
def b60o1:=bd c60 1
theorem q60o1:Qp L60o1 C60 ST60 b60o1 2 T60o1:=fun m w K=>by kernel_rfl
theorem o60o1:SumOk C60 KK (sumT T60o1 (L60o1 KK)) (.loop b60o1):=loop_ok T60o1 L60o1 (sums_of (t:=ST60) ⟨fun _ _ h=>absurd h (by decide),trivial⟩) (fun _ _=>rfl) q60o1
theorem r60:Rp (v60 t60) C60 ST60 Tryz.f60 (sig 60) c60 A60:=fun w=>by kernel_rfl
theorem ok60:OkS sig (Gd G dep (dep 60)) 60 th60:=okM (v:=v60) r60 Tryz.func60 rfl ⟨sum_in (c':=.loop b60o1) (by kernel_rfl) (o60o1),trivial⟩ te60 ue60
def C21:=mkC 21
def c21:=gc Tryz.f21
def ST21:LT:=[]
theorem r21:Rp (v21 (ta21 tu38 tu60)) C21 ST21 Tryz.f21 (sig 21) c21 A21:=fun w=>by kernel_rfl
theorem ok21:OkS sig (Gd G dep (dep 21)) 21 th21:=okM (v:=v21) r21 Tryz.func21 rfl trivial te21 ue21
def C191:=mkC 191
def c191:=gc Tryz.f191
def ST191:LT:=[]
theorem r191:Rp (v191 t191) C191 ST191 Tryz.f191 (sig 191) c191 A191:=fun w=>by kernel_rfl
theorem ok191:OkS sig (Gd G dep (dep 191)) 191 th191:=okM (v:=v191) r191 Tryz.func191 rfl trivial te191 ue191
def C181:=mkC 181
def c181:=gc Tryz.f181
def T181o1:TSt:=⟨[dL,dL,dB,dI,dB,.any,.any],[]⟩
def X181o1e1:TSt:=⟨[dL,dL,dB,dI,dB,dB,dB],[]⟩
def X181o1e2:TSt:=⟨[dL,dL,dB,dI,dB,dB,.any],[]⟩
def L181o1 (m:Nat) (w:List Vr) (K:KT):Rs:=la181o1 tu191 (vL w 0) (vL w 1) (vB w 2) (vB w 4) (fun n22 b23 b24=>K .ret (fillS X181o1e1 [jL w 0,jL w 1,.b (false),.i n22,jB w 4,.b b23,.b b24])) (fun n25 b26 v27=>K (.exit 0) (fillS X181o1e2 [jL w 0,jL w 1,jB w 2,.i n25,jB w 4,.b b26,.v v27])) m (vI w 3) (vV w 5) (vV w 6)
def ST181:LT:=[(1,sumT T181o1 (L181o1 KK))]
def b181o1:=bd c181 1
theorem q181o1:Qp L181o1 C181 ST181 b181o1 2 T181o1:=fun m w K=>by kernel_rfl
theorem o181o1:SumOk C181 KK (sumT T181o1 (L181o1 KK)) (.loop b181o1):=loop_ok T181o1 L181o1 (sums_of (t:=ST181) ⟨fun _ _ h=>absurd h (by decide),trivial⟩) (fun _ _=>rfl) q181o1
theorem r181:Rp (v181 (ta181 tu191)) C181 ST181 Tryz.f181 (sig 181) c181 A181:=fun w=>by kernel_rfl
theorem ok181:OkS sig (Gd G dep (dep 181)) 181 th181:=okM (v:=v181) r181 Tryz.func181 rfl ⟨sum_in (c':=.loop b181o1) (by kernel_rfl) (o181o1),trivial⟩ te181 ue181
def C162:=mkC 162
def c162:=gc Tryz.f162
def ST162:LT:=[]
theorem r162:Rp (v162 (ta162 tu181)) C162 ST162 Tryz.f162 (sig 162) c162 A162:=fun w=>by kernel_rfl
theorem ok162:OkS sig (Gd G dep (dep 162)) 162 th162:=okM (v:=v162) r162 Tryz.func162 rfl trivial te162 ue162
def C134:=mkC 134
def c134:=gc Tryz.f134
def T134o1:TSt:=⟨[dL,dL,dB,dI,dB,.any,.any],[]⟩
def X134o1e1:TSt:=⟨[dL,dL,dB,dI,dB,dB,dB],[]⟩
def X134o1e2:TSt:=⟨[dL,dL,dB,dI,dB,dB,.any],[]⟩
def L134o1 (m:Nat) (w:List Vr) (K:KT):Rs:=la134o1 tu162 (vL w 0) (vL w 1) (vB w 2) (vB w 4) (fun n22 b23 b24=>K .ret (fillS X134o1e1 [jL w 0,jL w 1,.b (false),.i n22,jB w 4,.b b23,.b b24])) (fun n25 b26 v27=>K (.exit 0) (fillS X134o1e2 [jL w 0,jL w 1,jB w 2,.i n25,jB w 4,.b b26,.v v27])) m (vI w 3) (vV w 5) (vV w 6)
def ST134:LT:=[(1,sumT T134o1 (L134o1 KK))]
def b134o1:=bd c134 1
theorem q134o1:Qp L134o1 C134 ST134 b134o1 2 T134o1:=fun m w K=>by kernel_rfl
theorem o134o1:SumOk C134 KK (sumT T134o1 (L134o1 KK)) (.loop b134o1):=loop_ok T134o1 L134o1 (sums_of (t:=ST134) ⟨fun _ _ h=>absurd h (by decide),trivial⟩) (fun _ _=>rfl) q134o1
theorem r134:Rp (v134 (ta134 tu162)) C134 ST134 Tryz.f134 (sig 134) c134 A134:=fun w=>by kernel_rfl
theorem ok134:OkS sig (Gd G dep (dep 134)) 134 th134:=okM (v:=v134) r134 Tryz.func134 rfl ⟨sum_in (c':=.loop b134o1) (by kernel_rfl) (o134o1),trivial⟩ te134 ue134
def C101:=mkC 101
def c101:=gc Tryz.f101
def ST101:LT:=[]
theorem r101:Rp (v101 (ta101 tu134)) C101 ST101 Tryz.f101 (sig 101) c101 A101:=fun w=>by kernel_rfl
theorem ok101:OkS sig (Gd G dep (dep 101)) 101 th101:=okM (v:=v101) r101 Tryz.func101 rfl trivial te101 ue101
def C135:=mkC 135
def c135:=gc Tryz.f135
def ST135:LT:=[]
theorem r135:Rp (v135 t135) C135 ST135 Tryz.f135 (sig 135) c135 A135:=fun w=>by kernel_rfl
theorem ok135:OkS sig (Gd G dep (dep 135)) 135 th135:=okM (v:=v135) r135 Tryz.func135 rfl trivial te135 ue135
def C102:=mkC 102
def c102:=gc Tryz.f102
def T102o1:TSt:=⟨[dL,dL,dB,dI,dB,.any,.any],[]⟩
def X102o1e1:TSt:=⟨[dL,dL,dB,dI,dB,dB,dB],[]⟩
def X102o1e2:TSt:=⟨[dL,dL,dB,dI,dB,dB,.any],[]⟩
def L102o1 (m:Nat) (w:List Vr) (K:KT):Rs:=la102o1 tu135 (vL w 0) (vL w 1) (vB w 2) (vB w 4) (fun n22 b23 b24=>K .ret (fillS X102o1e1 [jL w 0,jL w 1,.b (false),.i n22,jB w 4,.b b23,.b b24])) (fun n25 b26 v27=>K (.exit 0) (fillS X102o1e2 [jL w 0,jL w 1,jB w 2,.i n25,jB w 4,.b b26,.v v27])) m (vI w 3) (vV w 5) (vV w 6)
def ST102:LT:=[(1,sumT T102o1 (L102o1 KK))]
def b102o1:=bd c102 1
theorem q102o1:Qp L102o1 C102 ST102 b102o1 2 T102o1:=fun m w K=>by kernel_rfl
theorem o102o1:SumOk C102 KK (sumT T102o1 (L102o1 KK)) (.loop b102o1):=loop_ok T102o1 L102o1 (sums_of (t:=ST102) ⟨fun _ _ h=>absurd h (by decide),trivial⟩) (fun _ _=>rfl) q102o1
theorem r102:Rp (v102 (ta102 tu135)) C102 ST102 Tryz.f102 (sig 102) c102 A102:=fun w=>by kernel_rfl
theorem ok102:OkS sig (Gd G dep (dep 102)) 102 th102:=okM (v:=v102) r102 Tryz.func102 rfl ⟨sum_in (c':=.loop b102o1) (by kernel_rfl) (o102o1),trivial⟩ te102 ue102
def C163:=mkC 163
def c163:=gc Tryz.f163
def ST163:LT:=[]
theorem r163:Rp (v163 t163) C163 ST163 Tryz.f163 (sig 163) c163 A163:=fun w=>by kernel_rfl
theorem ok163:OkS sig (Gd G dep (dep 163)) 163 th163:=okM (v:=v163) r163 Tryz.func163 rfl trivial te163 ue163
def C136:=mkC 136
def c136:=gc Tryz.f136
def ST136:LT:=[]
theorem r136:Rp (v136 (ta136 tu163)) C136 ST136 Tryz.f136 (sig 136) c136 A136:=fun w=>by kernel_rfl
theorem ok136:OkS sig (Gd G dep (dep 136)) 136 th136:=okM (v:=v136) r136 Tryz.func136 rfl trivial te136 ue136
def C103:=mkC 103
def c103:=gc Tryz.f103
def T103o1:TSt:=⟨[dL,dL,dB,dI,dB,.any,.any],[]⟩
def X103o1e1:TSt:=⟨[dL,dL,dB,dI,dB,dB,dB],[]⟩
def X103o1e2:TSt:=⟨[dL,dL,dB,dI,dB,dB,.any],[]⟩
def L103o1 (m:Nat) (w:List Vr) (K:KT):Rs:=la103o1 tu136 (vL w 0) (vL w 1) (vB w 2) (vB w 4) (fun n22 b23 b24=>K .ret (fillS X103o1e1 [jL w 0,jL w 1,.b (false),.i n22,jB w 4,.b b23,.b b24])) (fun n25 b26 v27=>K (.exit 0) (fillS X103o1e2 [jL w 0,jL w 1,jB w 2,.i n25,jB w 4,.b b26,.v v27])) m (vI w 3) (vV w 5) (vV w 6)
def ST103:LT:=[(1,sumT T103o1 (L103o1 KK))]
def b103o1:=bd c103 1
theorem q103o1:Qp L103o1 C103 ST103 b103o1 2 T103o1:=fun m w K=>by kernel_rfl
theorem o103o1:SumOk C103 KK (sumT T103o1 (L103o1 KK)) (.loop b103o1):=loop_ok T103o1 L103o1 (sums_of (t:=ST103) ⟨fun _ _ h=>absurd h (by decide),trivial⟩) (fun _ _=>rfl) q103o1
theorem r103:Rp (v103 (ta103 tu136)) C103 ST103 Tryz.f103 (sig 103) c103 A103:=fun w=>by kernel_rfl
theorem ok103:OkS sig (Gd G dep (dep 103)) 103 th103:=okM (v:=v103) r103 Tryz.func103 rfl ⟨sum_in (c':=.loop b103o1) (by kernel_rfl) (o103o1),trivial⟩ te103 ue103
def C61:=mkC 61
def c61:=gc Tryz.f61
def ST61:LT:=[]
theorem r61:Rp (v61 (ta61 tu101 tu102 tu103)) C61 ST61 Tryz.f61 (sig 61) c61 A61:=fun w=>by kernel_rfl
theorem ok61:OkS sig (Gd G dep (dep 61)) 61 th61:=okM (v:=v61) r61 Tryz.func61 rfl trivial te61 ue61
def C22:=mkC 22
def c22:=gc Tryz.f22
def T22o1:TSt:=⟨[dL,dL,dB,dI,dB,.any,.any],[]⟩
def X22o1e1:TSt:=⟨[dL,dL,dB,dI,dB,dB,dB],[]⟩
def X22o1e2:TSt:=⟨[dL,dL,dB,dI,dB,dB,.any],[]⟩
def L22o1 (m:Nat) (w:List Vr) (K:KT):Rs:=la22o1 tu61 (vL w 0) (vL w 1) (vB w 2) (vB w 4) (fun n22 b23 b24=>K .ret (fillS X22o1e1 [jL w 0,jL w 1,.b (false),.i n22,jB w 4,.b b23,.b b24])) (fun n25 b26 v27=>K (.exit 0) (fillS X22o1e2 [jL w 0,jL w 1,jB w 2,.i n25,jB w 4,.b b26,.v v27])) m (vI w 3) (vV w 5) (vV w 6)
def ST22:LT:=[(1,sumT T22o1 (L22o1 KK))]
def b22o1:=bd c22 1
theorem q22o1:Qp L22o1 C22 ST22 b22o1 2 T22o1:=fun m w K=>by kernel_rfl
theorem o22o1:SumOk C22 KK (sumT T22o1 (L22o1 KK)) (.loop b22o1):=loop_ok T22o1 L22o1 (sums_of (t:=ST22) ⟨fun _ _ h=>absurd h (by decide),trivial⟩) (fun _ _=>rfl) q22o1
theorem r22:Rp (v22 (ta22 tu61)) C22 ST22 Tryz.f22 (sig 22) c22 A22:=fun w=>by kernel_rfl
theorem ok22:OkS sig (Gd G dep (dep 22)) 22 th22:=okM (v:=v22) r22 Tryz.func22 rfl ⟨sum_in (c':=.loop b22o1) (by kernel_rfl) (o22o1),trivial⟩ te22 ue22
def C23:=mkC 23
def c23:=gc Tryz.f23
def ST23:LT:=[]
theorem r23:Rp (v23 t23) C23 ST23 Tryz.f23 (sig 23) c23 A23:=fun w=>by kernel_rfl
theorem ok23:OkS sig (Gd G dep (dep 23)) 23 th23:=okM (v:=v23) r23 Tryz.func23 rfl trivial te23 ue23
def C62:=mkC 62
def c62:=gc Tryz.f62
def ST62:LT:=[]
theorem r62:Rp (v62 (ta62 tu23 tu38)) C62 ST62 Tryz.f62 (sig 62) c62 A62:=fun w=>by kernel_rfl
theorem ok62:OkS sig (Gd G dep (dep 62)) 62 th62:=okM (v:=v62) r62 Tryz.func62 rfl trivial te62 ue62
def C104:=mkC 104
def c104:=gc Tryz.f104
def ST104:LT:=[]
theorem r104:Rp (v104 t104) C104 ST104 Tryz.f104 (sig 104) c104 A104:=fun w=>by kernel_rfl
theorem ok104:OkS sig (Gd G dep (dep 104)) 104 th104:=okM (v:=v104) r104 Tryz.func104 rfl trivial te104 ue104
def C63:=mkC 63
def c63:=gc Tryz.f63
def T63o1:TSt:=⟨[dL,dL,dB,dI,dB,.any,.any],[]⟩
def X63o1e1:TSt:=⟨[dL,dL,dB,dI,dB,dB,dB],[]⟩
def X63o1e2:TSt:=⟨[dL,dL,dB,dI,dB,dB,.any],[]⟩
def L63o1 (m:Nat) (w:List Vr) (K:KT):Rs:=la63o1 tu104 (vL w 0) (vL w 1) (vB w 2) (vB w 4) (fun n22 b23 b24=>K .ret (fillS X63o1e1 [jL w 0,jL w 1,.b (false),.i n22,jB w 4,.b b23,.b b24])) (fun n25 b26 v27=>K (.exit 0) (fillS X63o1e2 [jL w 0,jL w 1,jB w 2,.i n25,jB w 4,.b b26,.v v27])) m (vI w 3) (vV w 5) (vV w 6)
def ST63:LT:=[(1,sumT T63o1 (L63o1 KK))]
def b63o1:=bd c63 1
theorem q63o1:Qp L63o1 C63 ST63 b63o1 2 T63o1:=fun m w K=>by kernel_rfl
theorem o63o1:SumOk C63 KK (sumT T63o1 (L63o1 KK)) (.loop b63o1):=loop_ok T63o1 L63o1 (sums_of (t:=ST63) ⟨fun _ _ h=>absurd h (by decide),trivial⟩) (fun _ _=>rfl) q63o1
theorem r63:Rp (v63 (ta63 tu104)) C63 ST63 Tryz.f63 (sig 63) c63 A63:=fun w=>by kernel_rfl
theorem ok63:OkS sig (Gd G dep (dep 63)) 63 th63:=okM (v:=v63) r63 Tryz.func63 rfl ⟨sum_in (c':=.loop b63o1) (by kernel_rfl) (o63o1),trivial⟩ te63 ue63
def C24:=mkC 24
def c24:=gc Tryz.f24
def ST24:LT:=[]
theorem r24:Rp (v24 (ta24 tu62 tu63)) C24 ST24 Tryz.f24 (sig 24) c24 A24:=fun w=>by kernel_rfl
theorem ok24:OkS sig (Gd G dep (dep 24)) 24 th24:=okM (v:=v24) r24 Tryz.func24 rfl trivial te24 ue24
def C105:=mkC 105
def c105:=gc Tryz.f105
def ST105:LT:=[]
theorem r105:Rp (v105 t105) C105 ST105 Tryz.f105 (sig 105) c105 A105:=fun w=>by kernel_rfl
theorem ok105:OkS sig (Gd G dep (dep 105)) 105 th105:=okM (v:=v105) r105 Tryz.func105 rfl trivial te105 ue105
def C64:=mkC 64
def c64:=gc Tryz.f64
def ST64:LT:=[]
theorem r64:Rp (v64 (ta64 tu105)) C64 ST64 Tryz.f64 (sig 64) c64 A64:=fun w=>by kernel_rfl
theorem ok64:OkS sig (Gd G dep (dep 64)) 64 th64:=okM (v:=v64) r64 Tryz.func64 rfl trivial te64 ue64
def C25:=mkC 25
def c25:=gc Tryz.f25
def T25o1:TSt:=⟨[dL,dL,dB,dI,dB,.any,.any],[]⟩
def X25o1e1:TSt:=⟨[dL,dL,dB,dI,dB,dB,dB],[]⟩
def X25o1e2:TSt:=⟨[dL,dL,dB,dI,dB,dB,.any],[]⟩
def L25o1 (m:Nat) (w:List Vr) (K:KT):Rs:=la25o1 tu64 (vL w 0) (vL w 1) (vB w 2) (vB w 4) (fun n22 b23 b24=>K .ret (fillS X25o1e1 [jL w 0,jL w 1,.b (false),.i n22,jB w 4,.b b23,.b b24])) (fun n25 b26 v27=>K (.exit 0) (fillS X25o1e2 [jL w 0,jL w 1,jB w 2,.i n25,jB w 4,.b b26,.v v27])) m (vI w 3) (vV w 5) (vV w 6)
def ST25:LT:=[(1,sumT T25o1 (L25o1 KK))]
def b25o1:=bd c25 1
theorem q25o1:Qp L25o1 C25 ST25 b25o1 2 T25o1:=fun m w K=>by kernel_rfl
theorem o25o1:SumOk C25 KK (sumT T25o1 (L25o1 KK)) (.loop b25o1):=loop_ok T25o1 L25o1 (sums_of (t:=ST25) ⟨fun _ _ h=>absurd h (by decide),trivial⟩) (fun _ _=>rfl) q25o1
theorem r25:Rp (v25 (ta25 tu64)) C25 ST25 Tryz.f25 (sig 25) c25 A25:=fun w=>by kernel_rfl
theorem ok25:OkS sig (Gd G dep (dep 25)) 25 th25:=okM (v:=v25) r25 Tryz.func25 rfl ⟨sum_in (c':=.loop b25o1) (by kernel_rfl) (o25o1),trivial⟩ te25 ue25
def C7:=mkC 7
def c7:=gc Tryz.f7
def ST7:LT:=[]
theorem r7:Rp (v7 (ta7 tu21 tu22 tu23 tu24 tu25)) C7 ST7 Tryz.f7 (sig 7) c7 A7:=fun w=>by kernel_rfl
theorem ok7:OkS sig (Gd G dep (dep 7)) 7 th7:=okM (v:=v7) r7 Tryz.func7 rfl trivial te7 ue7
def C35:=mkC 35
def c35:=gc Tryz.f35
def T35o1:TSt:=⟨[dL,dL,dB,dI,dB,.any,.any],[]⟩
def X35o1e1:TSt:=⟨[dL,dL,dB,dI,dB,dB,dB],[]⟩
def X35o1e2:TSt:=⟨[dL,dL,dB,dI,dB,dB,.any],[]⟩
def L35o1 (m:Nat) (w:List Vr) (K:KT):Rs:=la35o1 tu7 (vL w 0) (vL w 1) (vB w 2) (vB w 4) (fun n22 b23 b24=>K .ret (fillS X35o1e1 [jL w 0,jL w 1,.b (false),.i n22,jB w 4,.b b23,.b b24])) (fun n25 b26 v27=>K (.exit 0) (fillS X35o1e2 [jL w 0,jL w 1,jB w 2,.i n25,jB w 4,.b b26,.v v27])) m (vI w 3) (vV w 5) (vV w 6)
def ST35:LT:=[(1,sumT T35o1 (L35o1 KK))]
def b35o1:=bd c35 1
theorem q35o1:Qp L35o1 C35 ST35 b35o1 2 T35o1:=fun m w K=>by kernel_rfl
theorem o35o1:SumOk C35 KK (sumT T35o1 (L35o1 KK)) (.loop b35o1):=loop_ok T35o1 L35o1 (sums_of (t:=ST35) ⟨fun _ _ h=>absurd h (by decide),trivial⟩) (fun _ _=>rfl) q35o1
theorem r35:Rp (v35 (ta35 tu7)) C35 ST35 Tryz.f35 (sig 35) c35 A35:=fun w=>by kernel_rfl
theorem ok35:OkS sig (Gd G dep (dep 35)) 35 th35:=okM (v:=v35) r35 Tryz.func35 rfl ⟨sum_in (c':=.loop b35o1) (by kernel_rfl) (o35o1),trivial⟩ te35 ue35
def C78:=mkC 78
def c78:=gc Tryz.f78
def ST78:LT:=[]
theorem r78:Rp (v78 (ta78 tu38)) C78 ST78 Tryz.f78 (sig 78) c78 A78:=fun w=>by kernel_rfl
theorem ok78:OkS sig (Gd G dep (dep 78)) 78 th78:=okM (v:=v78) r78 Tryz.func78 rfl trivial te78 ue78
def C36:=mkC 36
def c36:=gc Tryz.f36
def T36o1:TSt:=⟨[dL,dL,dB,dI,dB,.any,.any],[]⟩
def X36o1e1:TSt:=⟨[dL,dL,dB,dI,dB,dB,dB],[]⟩
def X36o1e2:TSt:=⟨[dL,dL,dB,dI,dB,dB,.any],[]⟩
def L36o1 (m:Nat) (w:List Vr) (K:KT):Rs:=la36o1 tu78 (vL w 0) (vL w 1) (vB w 2) (vB w 4) (fun n22 b23 b24=>K .ret (fillS X36o1e1 [jL w 0,jL w 1,.b (false),.i n22,jB w 4,.b b23,.b b24])) (fun n25 b26 v27=>K (.exit 0) (fillS X36o1e2 [jL w 0,jL w 1,jB w 2,.i n25,jB w 4,.b b26,.v v27])) m (vI w 3) (vV w 5) (vV w 6)
def ST36:LT:=[(1,sumT T36o1 (L36o1 KK))]
def b36o1:=bd c36 1
theorem q36o1:Qp L36o1 C36 ST36 b36o1 2 T36o1:=fun m w K=>by kernel_rfl
theorem o36o1:SumOk C36 KK (sumT T36o1 (L36o1 KK)) (.loop b36o1):=loop_ok T36o1 L36o1 (sums_of (t:=ST36) ⟨fun _ _ h=>absurd h (by decide),trivial⟩) (fun _ _=>rfl) q36o1
theorem r36:Rp (v36 (ta36 tu78)) C36 ST36 Tryz.f36 (sig 36) c36 A36:=fun w=>by kernel_rfl
theorem ok36:OkS sig (Gd G dep (dep 36)) 36 th36:=okM (v:=v36) r36 Tryz.func36 rfl ⟨sum_in (c':=.loop b36o1) (by kernel_rfl) (o36o1),trivial⟩ te36 ue36
def C79:=mkC 79
def c79:=gc Tryz.f79
def ST79:LT:=[]
theorem r79:Rp (v79 t79) C79 ST79 Tryz.f79 (sig 79) c79 A79:=fun w=>by kernel_rfl
theorem ok79:OkS sig (Gd G dep (dep 79)) 79 th79:=okM (v:=v79) r79 Tryz.func79 rfl trivial te79 ue79
def C37:=mkC 37
def c37:=gc Tryz.f37
def T37o1:TSt:=⟨[dL,dL,dB,dI,dB,.any,.any],[]⟩
def X37o1e1:TSt:=⟨[dL,dL,dB,dI,dB,dB,dB],[]⟩
def X37o1e2:TSt:=⟨[dL,dL,dB,dI,dB,dB,.any],[]⟩
def L37o1 (m:Nat) (w:List Vr) (K:KT):Rs:=la37o1 tu79 (vL w 0) (vL w 1) (vB w 2) (vB w 4) (fun n22 b23 b24=>K .ret (fillS X37o1e1 [jL w 0,jL w 1,.b (false),.i n22,jB w 4,.b b23,.b b24])) (fun n25 b26 v27=>K (.exit 0) (fillS X37o1e2 [jL w 0,jL w 1,jB w 2,.i n25,jB w 4,.b b26,.v v27])) m (vI w 3) (vV w 5) (vV w 6)
def ST37:LT:=[(1,sumT T37o1 (L37o1 KK))]
def b37o1:=bd c37 1
theorem q37o1:Qp L37o1 C37 ST37 b37o1 2 T37o1:=fun m w K=>by kernel_rfl
theorem o37o1:SumOk C37 KK (sumT T37o1 (L37o1 KK)) (.loop b37o1):=loop_ok T37o1 L37o1 (sums_of (t:=ST37) ⟨fun _ _ h=>absurd h (by decide),trivial⟩) (fun _ _=>rfl) q37o1
theorem r37:Rp (v37 (ta37 tu79)) C37 ST37 Tryz.f37 (sig 37) c37 A37:=fun w=>by kernel_rfl
theorem ok37:OkS sig (Gd G dep (dep 37)) 37 th37:=okM (v:=v37) r37 Tryz.func37 rfl ⟨sum_in (c':=.loop b37o1) (by kernel_rfl) (o37o1),trivial⟩ te37 ue37
def C12:=mkC 12
def c12:=gc Tryz.f12
def ST12:LT:=[]
theorem r12:Rp (v12 (ta12 tu35 tu36 tu37 tu38)) C12 ST12 Tryz.f12 (sig 12) c12 A12:=fun w=>by kernel_rfl
theorem ok12:OkS sig (Gd G dep (dep 12)) 12 th12:=okM (v:=v12) r12 Tryz.func12 rfl trivial te12 ue12
def C71:=mkC 71
def c71:=gc Tryz.f71
def T71o1:TSt:=⟨[dI,dS,dS,dB,.any],[]⟩
def X71o1e1:TSt:=⟨[dI,dS,dS,dB,dB],[]⟩
def L71o1 (m:Nat) (w:List Vr) (K:KT):Rs:=l71o1 (vS w 1) (vB w 3) (fun n16 s17 b18=>K (.exit 0) (fillS X71o1e1 [.i n16,jS w 1,.s s17,jB w 3,.b b18])) m (vI w 0) (vS w 2) (vV w 4)
def ST71:LT:=[(1,sumT T71o1 (L71o1 KK))]
def b71o1:=bd c71 1
theorem q71o1:Qp L71o1 C71 ST71 b71o1 2 T71o1:=fun m w K=>by kernel_rfl
theorem o71o1:SumOk C71 KK (sumT T71o1 (L71o1 KK)) (.loop b71o1):=loop_ok T71o1 L71o1 (sums_of (t:=ST71) ⟨fun _ _ h=>absurd h (by decide),trivial⟩) (fun _ _=>rfl) q71o1
theorem r71:Rp (v71 t71) C71 ST71 Tryz.f71 (sig 71) c71 A71:=fun w=>by kernel_rfl
theorem ok71:OkS sig (Gd G dep (dep 71)) 71 th71:=okM (v:=v71) r71 Tryz.func71 rfl ⟨sum_in (c':=.loop b71o1) (by kernel_rfl) (o71o1),trivial⟩ te71 ue71
def C42:=mkC 42
def c42:=gc Tryz.f42
def T42o0:TSt:=⟨[.own 1,dI,dI,dI,.any],[(1,.row 999999999 2)]⟩
def X42o0e1:TSt:=⟨[.own 1,dI,dI,dI,dB],[(1,.row 999999999 2)]⟩
def L42o0 (m:Nat) (w:List Vr) (K:KT):Rs:=la42o0 tu71 (vI w 1) (fun n17 n18 b19 l20=>K (.exit 0) (fillS X42o0e1 [.i n17,jI w 1,.i n18,.b b19,.l l20])) m (vI w 0) (vI w 2) (vV w 3) (vL w 4)
def ST42:LT:=[(0,sumT T42o0 (L42o0 KK))]
def b42o0:=bd c42 0
theorem q42o0:Qp L42o0 C42 ST42 b42o0 1 T42o0:=fun m w K=>by kernel_rfl
theorem o42o0:SumOk C42 KK (sumT T42o0 (L42o0 KK)) (.loop b42o0):=loop_ok T42o0 L42o0 (sums_of (t:=ST42) ⟨fun _ _ h=>absurd h (by decide),trivial⟩) (fun _ _=>rfl) q42o0
theorem r42:Rp (v42 (ta42 tu71)) C42 ST42 Tryz.f42 (sig 42) c42 A42:=fun w=>by kernel_rfl
theorem ok42:OkS sig (Gd G dep (dep 42)) 42 th42:=okM (v:=v42) r42 Tryz.func42 rfl ⟨sum_in (c':=.loop b42o0) (by kernel_rfl) (o42o0),trivial⟩ te42 ue42
def C65:=mkC 65
def c65:=gc Tryz.f65
def T65o0:TSt:=⟨[.own 1,dI,dI,dI,.any],[(1,.row 999999999 1)]⟩
def X65o0e1:TSt:=⟨[.own 1,dI,dI,dI,dB],[(1,.row 999999999 1)]⟩
def L65o0 (m:Nat) (w:List Vr) (K:KT):Rs:=l65o0 (vI w 1) (fun n17 n18 b19 l20=>K (.exit 0) (fillS X65o0e1 [.i n17,jI w 1,.i n18,.b b19,.l l20])) m (vI w 0) (vI w 2) (vV w 3) (vL w 4)
def ST65:LT:=[(0,sumT T65o0 (L65o0 KK))]
def b65o0:=bd c65 0
theorem q65o0:Qp L65o0 C65 ST65 b65o0 1 T65o0:=fun m w K=>by kernel_rfl
theorem o65o0:SumOk C65 KK (sumT T65o0 (L65o0 KK)) (.loop b65o0):=loop_ok T65o0 L65o0 (sums_of (t:=ST65) ⟨fun _ _ h=>absurd h (by decide),trivial⟩) (fun _ _=>rfl) q65o0
theorem r65:Rp (v65 t65) C65 ST65 Tryz.f65 (sig 65) c65 A65:=fun w=>by kernel_rfl
theorem ok65:OkS sig (Gd G dep (dep 65)) 65 th65:=okM (v:=v65) r65 Tryz.func65 rfl ⟨sum_in (c':=.loop b65o0) (by kernel_rfl) (o65o0),trivial⟩ te65 ue65
def C106:=mkC 106
def c106:=gc Tryz.f106
def T106o0:TSt:=⟨[.own 1,dI,dI,dI,.any],[(1,.row 999999999 2)]⟩
def X106o0e1:TSt:=⟨[.own 1,dI,dI,dI,dB],[(1,.row 999999999 2)]⟩
def L106o0 (m:Nat) (w:List Vr) (K:KT):Rs:=la106o0 tu71 (vI w 1) (fun n17 n18 b19 l20=>K (.exit 0) (fillS X106o0e1 [.i n17,jI w 1,.i n18,.b b19,.l l20])) m (vI w 0) (vI w 2) (vV w 3) (vL w 4)
def ST106:LT:=[(0,sumT T106o0 (L106o0 KK))]
def b106o0:=bd c106 0
theorem q106o0:Qp L106o0 C106 ST106 b106o0 1 T106o0:=fun m w K=>by kernel_rfl
theorem o106o0:SumOk C106 KK (sumT T106o0 (L106o0 KK)) (.loop b106o0):=loop_ok T106o0 L106o0 (sums_of (t:=ST106) ⟨fun _ _ h=>absurd h (by decide),trivial⟩) (fun _ _=>rfl) q106o0
theorem r106:Rp (v106 (ta106 tu71)) C106 ST106 Tryz.f106 (sig 106) c106 A106:=fun w=>by kernel_rfl
theorem ok106:OkS sig (Gd G dep (dep 106)) 106 th106:=okM (v:=v106) r106 Tryz.func106 rfl ⟨sum_in (c':=.loop b106o0) (by kernel_rfl) (o106o0),trivial⟩ te106 ue106
def C66:=mkC 66
def c66:=gc Tryz.f66
def T66o0:TSt:=⟨[.own 1,dI,dI,dI,.any],[(1,.row 999999999 9)]⟩
def X66o0e1:TSt:=⟨[.own 1,dI,dI,dI,dB],[(1,.row 999999999 9)]⟩
def L66o0 (m:Nat) (w:List Vr) (K:KT):Rs:=la66o0 tu71 tu106 (vI w 1) (fun n17 n18 b19 l20=>K (.exit 0) (fillS X66o0e1 [.i n17,jI w 1,.i n18,.b b19,.l l20])) m (vI w 0) (vI w 2) (vV w 3) (vL w 4)
def ST66:LT:=[(0,sumT T66o0 (L66o0 KK))]
def b66o0:=bd c66 0
theorem q66o0:Qp L66o0 C66 ST66 b66o0 1 T66o0:=fun m w K=>by kernel_rfl
theorem o66o0:SumOk C66 KK (sumT T66o0 (L66o0 KK)) (.loop b66o0):=loop_ok T66o0 L66o0 (sums_of (t:=ST66) ⟨fun _ _ h=>absurd h (by decide),trivial⟩) (fun _ _=>rfl) q66o0
theorem r66:Rp (v66 (ta66 tu71 tu106)) C66 ST66 Tryz.f66 (sig 66) c66 A66:=fun w=>by kernel_rfl
theorem ok66:OkS sig (Gd G dep (dep 66)) 66 th66:=okM (v:=v66) r66 Tryz.func66 rfl ⟨sum_in (c':=.loop b66o0) (by kernel_rfl) (o66o0),trivial⟩ te66 ue66
def C67:=mkC 67
def c67:=gc Tryz.f67
def T67o0:TSt:=⟨[.own 1,dI,dI,dI,.any],[(1,.row 999999999 5)]⟩
def X67o0e1:TSt:=⟨[.own 1,dI,dI,dI,dB],[(1,.row 999999999 5)]⟩
def L67o0 (m:Nat) (w:List Vr) (K:KT):Rs:=l67o0 (vI w 1) (fun n17 n18 b19 l20=>K (.exit 0) (fillS X67o0e1 [.i n17,jI w 1,.i n18,.b b19,.l l20])) m (vI w 0) (vI w 2) (vV w 3) (vL w 4)
def ST67:LT:=[(0,sumT T67o0 (L67o0 KK))]
def b67o0:=bd c67 0
theorem q67o0:Qp L67o0 C67 ST67 b67o0 1 T67o0:=fun m w K=>by kernel_rfl
theorem o67o0:SumOk C67 KK (sumT T67o0 (L67o0 KK)) (.loop b67o0):=loop_ok T67o0 L67o0 (sums_of (t:=ST67) ⟨fun _ _ h=>absurd h (by decide),trivial⟩) (fun _ _=>rfl) q67o0
theorem r67:Rp (v67 t67) C67 ST67 Tryz.f67 (sig 67) c67 A67:=fun w=>by kernel_rfl
theorem ok67:OkS sig (Gd G dep (dep 67)) 67 th67:=okM (v:=v67) r67 Tryz.func67 rfl ⟨sum_in (c':=.loop b67o0) (by kernel_rfl) (o67o0),trivial⟩ te67 ue67
def C68:=mkC 68
def c68:=gc Tryz.f68
def T68o0:TSt:=⟨[.own 1,dI,dI,dI,.any],[(1,.row 999999999 5)]⟩
def X68o0e1:TSt:=⟨[.own 1,dI,dI,dI,dB],[(1,.row 999999999 5)]⟩
def L68o0 (m:Nat) (w:List Vr) (K:KT):Rs:=la68o0 tu71 (vI w 1) (fun n17 n18 b19 l20=>K (.exit 0) (fillS X68o0e1 [.i n17,jI w 1,.i n18,.b b19,.l l20])) m (vI w 0) (vI w 2) (vV w 3) (vL w 4)
def ST68:LT:=[(0,sumT T68o0 (L68o0 KK))]
def b68o0:=bd c68 0
theorem q68o0:Qp L68o0 C68 ST68 b68o0 1 T68o0:=fun m w K=>by kernel_rfl
theorem o68o0:SumOk C68 KK (sumT T68o0 (L68o0 KK)) (.loop b68o0):=loop_ok T68o0 L68o0 (sums_of (t:=ST68) ⟨fun _ _ h=>absurd h (by decide),trivial⟩) (fun _ _=>rfl) q68o0
theorem r68:Rp (v68 (ta68 tu71)) C68 ST68 Tryz.f68 (sig 68) c68 A68:=fun w=>by kernel_rfl
theorem ok68:OkS sig (Gd G dep (dep 68)) 68 th68:=okM (v:=v68) r68 Tryz.func68 rfl ⟨sum_in (c':=.loop b68o0) (by kernel_rfl) (o68o0),trivial⟩ te68 ue68
def C27:=mkC 27
def c27:=gc Tryz.f27
def T27o0:TSt:=⟨[.own 1,dI,dI,dI,.any],[(1,.row 999999999 5)]⟩
def X27o0e1:TSt:=⟨[.own 1,dI,dI,dI,dB],[(1,.row 999999999 5)]⟩
def L27o0 (m:Nat) (w:List Vr) (K:KT):Rs:=la27o0 tu66 tu67 tu68 (vI w 1) (fun n17 n18 b19 l20=>K (.exit 0) (fillS X27o0e1 [.i n17,jI w 1,.i n18,.b b19,.l l20])) m (vI w 0) (vI w 2) (vV w 3) (vL w 4)
def ST27:LT:=[(0,sumT T27o0 (L27o0 KK))]
def b27o0:=bd c27 0
theorem q27o0:Qp L27o0 C27 ST27 b27o0 1 T27o0:=fun m w K=>by kernel_rfl
theorem o27o0:SumOk C27 KK (sumT T27o0 (L27o0 KK)) (.loop b27o0):=loop_ok T27o0 L27o0 (sums_of (t:=ST27) ⟨fun _ _ h=>absurd h (by decide),trivial⟩) (fun _ _=>rfl) q27o0
theorem r27:Rp (v27 (ta27 tu66 tu67 tu68)) C27 ST27 Tryz.f27 (sig 27) c27 A27:=fun w=>by kernel_rfl
theorem ok27:OkS sig (Gd G dep (dep 27)) 27 th27:=okM (v:=v27) r27 Tryz.func27 rfl ⟨sum_in (c':=.loop b27o0) (by kernel_rfl) (o27o0),trivial⟩ te27 ue27
def C70:=mkC 70
def c70:=gc Tryz.f70
def T70o0:TSt:=⟨[.own 1,dI,dI,dI,.any],[(1,.row 999999999 5)]⟩
def X70o0e1:TSt:=⟨[.own 1,dI,dI,dI,dB],[(1,.row 999999999 5)]⟩
def L70o0 (m:Nat) (w:List Vr) (K:KT):Rs:=la70o0 tu71 (vI w 1) (fun n17 n18 b19 l20=>K (.exit 0) (fillS X70o0e1 [.i n17,jI w 1,.i n18,.b b19,.l l20])) m (vI w 0) (vI w 2) (vV w 3) (vL w 4)
def ST70:LT:=[(0,sumT T70o0 (L70o0 KK))]
def b70o0:=bd c70 0
theorem q70o0:Qp L70o0 C70 ST70 b70o0 1 T70o0:=fun m w K=>by kernel_rfl
theorem o70o0:SumOk C70 KK (sumT T70o0 (L70o0 KK)) (.loop b70o0):=loop_ok T70o0 L70o0 (sums_of (t:=ST70) ⟨fun _ _ h=>absurd h (by decide),trivial⟩) (fun _ _=>rfl) q70o0
theorem r70:Rp (v70 (ta70 tu71)) C70 ST70 Tryz.f70 (sig 70) c70 A70:=fun w=>by kernel_rfl
theorem ok70:OkS sig (Gd G dep (dep 70)) 70 th70:=okM (v:=v70) r70 Tryz.func70 rfl ⟨sum_in (c':=.loop b70o0) (by kernel_rfl) (o70o0),trivial⟩ te70 ue70
def C29:=mkC 29
def c29:=gc Tryz.f29
def T29o0:TSt:=⟨[.own 1,dI,dI,dI,.any],[(1,.row 999999999 9)]⟩
def X29o0e1:TSt:=⟨[.own 1,dI,dI,dI,dB],[(1,.row 999999999 9)]⟩
def L29o0 (m:Nat) (w:List Vr) (K:KT):Rs:=la29o0 tu71 (vI w 1) (fun n17 n18 b19 l20=>K (.exit 0) (fillS X29o0e1 [.i n17,jI w 1,.i n18,.b b19,.l l20])) m (vI w 0) (vI w 2) (vV w 3) (vL w 4)
def ST29:LT:=[(0,sumT T29o0 (L29o0 KK))]
def b29o0:=bd c29 0
theorem q29o0:Qp L29o0 C29 ST29 b29o0 1 T29o0:=fun m w K=>by kernel_rfl
theorem o29o0:SumOk C29 KK (sumT T29o0 (L29o0 KK)) (.loop b29o0):=loop_ok T29o0 L29o0 (sums_of (t:=ST29) ⟨fun _ _ h=>absurd h (by decide),trivial⟩) (fun _ _=>rfl) q29o0
theorem r29:Rp (v29 (ta29 tu71)) C29 ST29 Tryz.f29 (sig 29) c29 A29:=fun w=>by kernel_rfl
theorem ok29:OkS sig (Gd G dep (dep 29)) 29 th29:=okM (v:=v29) r29 Tryz.func29 rfl ⟨sum_in (c':=.loop b29o0) (by kernel_rfl) (o29o0),trivial⟩ te29 ue29
def C39:=mkC 39
def c39:=gc Tryz.f39
def T39o0:TSt:=⟨[.own 1,dI,dI,dI,.any],[(1,.row 999999999 30)]⟩
def X39o0e1:TSt:=⟨[.own 1,dI,dI,dI,dB],[(1,.row 999999999 30)]⟩
def L39o0 (m:Nat) (w:List Vr) (K:KT):Rs:=la39o0 tu27 tu29 tu42 tu65 tu70 tu71 (vI w 1) (fun n17 n18 b19 l20=>K (.exit 0) (fillS X39o0e1 [.i n17,jI w 1,.i n18,.b b19,.l l20])) m (vI w 0) (vI w 2) (vV w 3) (vL w 4)
def ST39:LT:=[(0,sumT T39o0 (L39o0 KK))]
def b39o0:=bd c39 0
theorem q39o0:Qp L39o0 C39 ST39 b39o0 1 T39o0:=fun m w K=>by kernel_rfl
theorem o39o0:SumOk C39 KK (sumT T39o0 (L39o0 KK)) (.loop b39o0):=loop_ok T39o0 L39o0 (sums_of (t:=ST39) ⟨fun _ _ h=>absurd h (by decide),trivial⟩) (fun _ _=>rfl) q39o0
theorem r39:Rp (v39 (ta39 tu27 tu29 tu42 tu65 tu70 tu71)) C39 ST39 Tryz.f39 (sig 39) c39 A39:=fun w=>by kernel_rfl
theorem ok39:OkS sig (Gd G dep (dep 39)) 39 th39:=okM (v:=v39) r39 Tryz.func39 rfl ⟨sum_in (c':=.loop b39o0) (by kernel_rfl) (o39o0),trivial⟩ te39 ue39
def C40:=mkC 40
def c40:=gc Tryz.f40
def T40o0:TSt:=⟨[.own 1,dI,dI,dI,.any],[(1,.row 999999999 10)]⟩
def X40o0e1:TSt:=⟨[.own 1,dI,dI,dI,dB],[(1,.row 999999999 10)]⟩
def L40o0 (m:Nat) (w:List Vr) (K:KT):Rs:=la40o0 tu42 tu71 (vI w 1) (fun n17 n18 b19 l20=>K (.exit 0) (fillS X40o0e1 [.i n17,jI w 1,.i n18,.b b19,.l l20])) m (vI w 0) (vI w 2) (vV w 3) (vL w 4)
def ST40:LT:=[(0,sumT T40o0 (L40o0 KK))]
def b40o0:=bd c40 0
theorem q40o0:Qp L40o0 C40 ST40 b40o0 1 T40o0:=fun m w K=>by kernel_rfl
theorem o40o0:SumOk C40 KK (sumT T40o0 (L40o0 KK)) (.loop b40o0):=loop_ok T40o0 L40o0 (sums_of (t:=ST40) ⟨fun _ _ h=>absurd h (by decide),trivial⟩) (fun _ _=>rfl) q40o0
theorem r40:Rp (v40 (ta40 tu42 tu71)) C40 ST40 Tryz.f40 (sig 40) c40 A40:=fun w=>by kernel_rfl
theorem ok40:OkS sig (Gd G dep (dep 40)) 40 th40:=okM (v:=v40) r40 Tryz.func40 rfl ⟨sum_in (c':=.loop b40o0) (by kernel_rfl) (o40o0),trivial⟩ te40 ue40
def C41:=mkC 41
def c41:=gc Tryz.f41
def T41o0:TSt:=⟨[.own 1,dI,dI,dI,.any],[(1,.row 999999999 6)]⟩
def X41o0e1:TSt:=⟨[.own 1,dI,dI,dI,dB],[(1,.row 999999999 6)]⟩
def L41o0 (m:Nat) (w:List Vr) (K:KT):Rs:=la41o0 tu71 (vI w 1) (fun n17 n18 b19 l20=>K (.exit 0) (fillS X41o0e1 [.i n17,jI w 1,.i n18,.b b19,.l l20])) m (vI w 0) (vI w 2) (vV w 3) (vL w 4)
def ST41:LT:=[(0,sumT T41o0 (L41o0 KK))]
def b41o0:=bd c41 0
theorem q41o0:Qp L41o0 C41 ST41 b41o0 1 T41o0:=fun m w K=>by kernel_rfl
theorem o41o0:SumOk C41 KK (sumT T41o0 (L41o0 KK)) (.loop b41o0):=loop_ok T41o0 L41o0 (sums_of (t:=ST41) ⟨fun _ _ h=>absurd h (by decide),trivial⟩) (fun _ _=>rfl) q41o0
theorem r41:Rp (v41 (ta41 tu71)) C41 ST41 Tryz.f41 (sig 41) c41 A41:=fun w=>by kernel_rfl
theorem ok41:OkS sig (Gd G dep (dep 41)) 41 th41:=okM (v:=v41) r41 Tryz.func41 rfl ⟨sum_in (c':=.loop b41o0) (by kernel_rfl) (o41o0),trivial⟩ te41 ue41
def C13:=mkC 13
def c13:=gc Tryz.f13
def ST13:LT:=[]
theorem r13:Rp (v13 (ta13 tu39 tu40 tu41 tu42)) C13 ST13 Tryz.f13 (sig 13) c13 A13:=fun w=>by kernel_rfl
theorem ok13:OkS sig (Gd G dep (dep 13)) 13 th13:=okM (v:=v13) r13 Tryz.func13 rfl trivial te13 ue13
def C46:=mkC 46
def c46:=gc Tryz.f46
def T46o0:TSt:=⟨[dL,dI,dI,dI,.any,.any,.any],[]⟩
def X46o0e1:TSt:=⟨[dL,dI,dI,dI,dB,dB,.any],[]⟩
def X46o0e2:TSt:=⟨[dL,dI,dI,dI,dB,dB,dB],[]⟩
def X46o0e3:TSt:=⟨[dL,dI,dI,dI,dB,.any,.any],[]⟩
def L46o0 (m:Nat) (w:List Vr) (K:KT):Rs:=la46o0 tu71 (vL w 0) (vI w 2) (fun n21 n22 b23 b24 v25=>K .ret (fillS X46o0e1 [jL w 0,.i n21,.i ((-1:Int)),.i n22,.b b23,.b b24,.v v25])) (fun n26 n27 b28 b29 b30=>K .ret (fillS X46o0e2 [jL w 0,.i n26,.i ((-1:Int)),.i n27,.b b28,.b b29,.b b30])) (fun n31 n32 b33 v34 v35=>K (.exit 0) (fillS X46o0e3 [jL w 0,.i n31,jI w 2,.i n32,.b b33,.v v34,.v v35])) m (vI w 1) (vI w 3) (vV w 4) (vV w 5) (vV w 6)
def ST46:LT:=[(0,sumT T46o0 (L46o0 KK))]
def b46o0:=bd c46 0
theorem q46o0:Qp L46o0 C46 ST46 b46o0 1 T46o0:=fun m w K=>by kernel_rfl
theorem o46o0:SumOk C46 KK (sumT T46o0 (L46o0 KK)) (.loop b46o0):=loop_ok T46o0 L46o0 (sums_of (t:=ST46) ⟨fun _ _ h=>absurd h (by decide),trivial⟩) (fun _ _=>rfl) q46o0
theorem r46:Rp (v46 (ta46 tu71)) C46 ST46 Tryz.f46 (sig 46) c46 A46:=fun w=>by kernel_rfl
theorem ok46:OkS sig (Gd G dep (dep 46)) 46 th46:=okM (v:=v46) r46 Tryz.func46 rfl ⟨sum_in (c':=.loop b46o0) (by kernel_rfl) (o46o0),trivial⟩ te46 ue46
def C72:=mkC 72
def c72:=gc Tryz.f72
def T72o0:TSt:=⟨[dL,dI,dI,dI,.any,.any],[]⟩
def X72o0e1:TSt:=⟨[dL,dI,dI,dI,dB,dB],[]⟩
def X72o0e2:TSt:=⟨[dL,dI,dI,dI,dB,.any],[]⟩
def L72o0 (m:Nat) (w:List Vr) (K:KT):Rs:=l72o0 (vL w 0) (vI w 2) (fun n19 n20 b21 b22=>K .ret (fillS X72o0e1 [jL w 0,.i n19,.i ((-1:Int)),.i n20,.b b21,.b b22])) (fun n23 n24 b25 v26=>K (.exit 0) (fillS X72o0e2 [jL w 0,.i n23,jI w 2,.i n24,.b b25,.v v26])) m (vI w 1) (vI w 3) (vV w 4) (vV w 5)
def ST72:LT:=[(0,sumT T72o0 (L72o0 KK))]
def b72o0:=bd c72 0
theorem q72o0:Qp L72o0 C72 ST72 b72o0 1 T72o0:=fun m w K=>by kernel_rfl
theorem o72o0:SumOk C72 KK (sumT T72o0 (L72o0 KK)) (.loop b72o0):=loop_ok T72o0 L72o0 (sums_of (t:=ST72) ⟨fun _ _ h=>absurd h (by decide),trivial⟩) (fun _ _=>rfl) q72o0
theorem r72:Rp (v72 t72) C72 ST72 Tryz.f72 (sig 72) c72 A72:=fun w=>by kernel_rfl
theorem ok72:OkS sig (Gd G dep (dep 72)) 72 th72:=okM (v:=v72) r72 Tryz.func72 rfl ⟨sum_in (c':=.loop b72o0) (by kernel_rfl) (o72o0),trivial⟩ te72 ue72
def C107:=mkC 107
def c107:=gc Tryz.f107
def T107o0:TSt:=⟨[dL,dI,dI,dI,.any,.any,.any],[]⟩
def X107o0e1:TSt:=⟨[dL,dI,dI,dI,dB,dB,.any],[]⟩
def X107o0e2:TSt:=⟨[dL,dI,dI,dI,dB,dB,dB],[]⟩
def X107o0e3:TSt:=⟨[dL,dI,dI,dI,dB,.any,.any],[]⟩
def L107o0 (m:Nat) (w:List Vr) (K:KT):Rs:=la107o0 tu71 (vL w 0) (vI w 2) (fun n21 n22 b23 b24 v25=>K .ret (fillS X107o0e1 [jL w 0,.i n21,.i ((-1:Int)),.i n22,.b b23,.b b24,.v v25])) (fun n26 n27 b28 b29 b30=>K .ret (fillS X107o0e2 [jL w 0,.i n26,.i ((-1:Int)),.i n27,.b b28,.b b29,.b b30])) (fun n31 n32 b33 v34 v35=>K (.exit 0) (fillS X107o0e3 [jL w 0,.i n31,jI w 2,.i n32,.b b33,.v v34,.v v35])) m (vI w 1) (vI w 3) (vV w 4) (vV w 5) (vV w 6)
def ST107:LT:=[(0,sumT T107o0 (L107o0 KK))]
def b107o0:=bd c107 0
theorem q107o0:Qp L107o0 C107 ST107 b107o0 1 T107o0:=fun m w K=>by kernel_rfl
theorem o107o0:SumOk C107 KK (sumT T107o0 (L107o0 KK)) (.loop b107o0):=loop_ok T107o0 L107o0 (sums_of (t:=ST107) ⟨fun _ _ h=>absurd h (by decide),trivial⟩) (fun _ _=>rfl) q107o0
theorem r107:Rp (v107 (ta107 tu71)) C107 ST107 Tryz.f107 (sig 107) c107 A107:=fun w=>by kernel_rfl
theorem ok107:OkS sig (Gd G dep (dep 107)) 107 th107:=okM (v:=v107) r107 Tryz.func107 rfl ⟨sum_in (c':=.loop b107o0) (by kernel_rfl) (o107o0),trivial⟩ te107 ue107
def C73:=mkC 73
def c73:=gc Tryz.f73
def T73o0:TSt:=⟨[dL,dI,dI,dI,.any,.any,.any,.any,.any,.any,.any,.any,.any,.any],[]⟩
def X73o0e1:TSt:=⟨[dL,dI,dI,dI,dB,dB,.any,.any,.any,.any,.any,.any,.any,.any],[]⟩
def X73o0e2:TSt:=⟨[dL,dI,dI,dI,dB,dB,dB,.any,.any,.any,.any,.any,.any,.any],[]⟩
def X73o0e3:TSt:=⟨[dL,dI,dI,dI,dB,dB,dB,dB,.any,.any,.any,.any,.any,.any],[]⟩
def X73o0e4:TSt:=⟨[dL,dI,dI,dI,dB,dB,dB,dB,dB,.any,.any,.any,.any,.any],[]⟩
def X73o0e5:TSt:=⟨[dL,dI,dI,dI,dB,dB,dB,dB,dB,dB,.any,.any,.any,.any],[]⟩
def X73o0e6:TSt:=⟨[dL,dI,dI,dI,dB,dB,dB,dB,dB,dB,dB,.any,.any,.any],[]⟩
def X73o0e7:TSt:=⟨[dL,dI,dI,dI,dB,dB,dB,dB,dB,dB,dB,dB,.any,.any],[]⟩
def X73o0e8:TSt:=⟨[dL,dI,dI,dI,dB,dB,dB,dB,dB,dB,dB,dB,dB,.any],[]⟩
def X73o0e9:TSt:=⟨[dL,dI,dI,dI,dB,dB,dB,dB,dB,dB,dB,dB,dB,dB],[]⟩
def X73o0e10:TSt:=⟨[dL,dI,dI,dI,dB,.any,.any,.any,.any,.any,.any,.any,.any,.any],[]⟩
def L73o0 (m:Nat) (w:List Vr) (K:KT):Rs:=la73o0 tu71 tu107 (vL w 0) (vI w 2) (fun n35 n36 b37 b38 v39 v40 v41 v42 v43 v44 v45 v46=>K .ret (fillS X73o0e1 [jL w 0,.i n35,.i ((-1:Int)),.i n36,.b b37,.b b38,.v v39,.v v40,.v v41,.v v42,.v v43,.v v44,.v v45,.v v46])) (fun n47 n48 b49 b50 b51 v52 v53 v54 v55 v56 v57 v58=>K .ret (fillS X73o0e2 [jL w 0,.i n47,.i ((-1:Int)),.i n48,.b b49,.b b50,.b b51,.v v52,.v v53,.v v54,.v v55,.v v56,.v v57,.v v58])) (fun n59 n60 b61 b62 b63 b64 v65 v66 v67 v68 v69 v70=>K .ret (fillS X73o0e3 [jL w 0,.i n59,.i ((-1:Int)),.i n60,.b b61,.b b62,.b b63,.b b64,.v v65,.v v66,.v v67,.v v68,.v v69,.v v70])) (fun n71 n72 b73 b74 b75 b76 b77 v78 v79 v80 v81 v82=>K .ret (fillS X73o0e4 [jL w 0,.i n71,.i ((-1:Int)),.i n72,.b b73,.b b74,.b b75,.b b76,.b b77,.v v78,.v v79,.v v80,.v v81,.v v82])) (fun n83 n84 b85 b86 b87 b88 b89 b90 v91 v92 v93 v94=>K .ret (fillS X73o0e5 [jL w 0,.i n83,.i ((-1:Int)),.i n84,.b b85,.b b86,.b b87,.b b88,.b b89,.b b90,.v v91,.v v92,.v v93,.v v94])) (fun n95 n96 b97 b98 b99 b100 b101 b102 b103 v104 v105 v106=>K .ret (fillS X73o0e6 [jL w 0,.i n95,.i ((-1:Int)),.i n96,.b b97,.b b98,.b b99,.b b100,.b b101,.b b102,.b b103,.v v104,.v v105,.v v106])) (fun n107 n108 b109 b110 b111 b112 b113 b114 b115 b116 v117 v118=>K .ret (fillS X73o0e7 [jL w 0,.i n107,.i ((-1:Int)),.i n108,.b b109,.b b110,.b b111,.b b112,.b b113,.b b114,.b b115,.b b116,.v v117,.v v118])) (fun n119 n120 b121 b122 b123 b124 b125 b126 b127 b128 b129 v130=>K .ret (fillS X73o0e8 [jL w 0,.i n119,.i ((-1:Int)),.i n120,.b b121,.b b122,.b b123,.b b124,.b b125,.b b126,.b b127,.b b128,.b b129,.v v130])) (fun n131 n132 b133 b134 b135 b136 b137 b138 b139 b140 b141 b142=>K .ret (fillS X73o0e9 [jL w 0,.i n131,.i ((-1:Int)),.i n132,.b b133,.b b134,.b b135,.b b136,.b b137,.b b138,.b b139,.b b140,.b b141,.b b142])) (fun n143 n144 b145 v146 v147 v148 v149 v150 v151 v152 v153 v154=>K (.exit 0) (fillS X73o0e10 [jL w 0,.i n143,jI w 2,.i n144,.b b145,.v v146,.v v147,.v v148,.v v149,.v v150,.v v151,.v v152,.v v153,.v v154])) m (vI w 1) (vI w 3) (vV w 4) (vV w 5) (vV w 6) (vV w 7) (vV w 8) (vV w 9) (vV w 10) (vV w 11) (vV w 12) (vV w 13)
def ST73:LT:=[(0,sumT T73o0 (L73o0 KK))]
def b73o0:=bd c73 0
theorem q73o0:Qp L73o0 C73 ST73 b73o0 1 T73o0:=fun m w K=>by kernel_rfl
theorem o73o0:SumOk C73 KK (sumT T73o0 (L73o0 KK)) (.loop b73o0):=loop_ok T73o0 L73o0 (sums_of (t:=ST73) ⟨fun _ _ h=>absurd h (by decide),trivial⟩) (fun _ _=>rfl) q73o0
theorem r73:Rp (v73 (ta73 tu71 tu107)) C73 ST73 Tryz.f73 (sig 73) c73 A73:=fun w=>by kernel_rfl
theorem ok73:OkS sig (Gd G dep (dep 73)) 73 th73:=okM (v:=v73) r73 Tryz.func73 rfl ⟨sum_in (c':=.loop b73o0) (by kernel_rfl) (o73o0),trivial⟩ te73 ue73
def C74:=mkC 74
def c74:=gc Tryz.f74
def T74o0:TSt:=⟨[dL,dI,dI,dI,.any,.any,.any,.any,.any,.any],[]⟩
def X74o0e1:TSt:=⟨[dL,dI,dI,dI,dB,dB,.any,.any,.any,.any],[]⟩
def X74o0e2:TSt:=⟨[dL,dI,dI,dI,dB,dB,dB,.any,.any,.any],[]⟩
def X74o0e3:TSt:=⟨[dL,dI,dI,dI,dB,dB,dB,dB,.any,.any],[]⟩
def X74o0e4:TSt:=⟨[dL,dI,dI,dI,dB,dB,dB,dB,dB,.any],[]⟩
def X74o0e5:TSt:=⟨[dL,dI,dI,dI,dB,dB,dB,dB,dB,dB],[]⟩
def X74o0e6:TSt:=⟨[dL,dI,dI,dI,dB,.any,.any,.any,.any,.any],[]⟩
def L74o0 (m:Nat) (w:List Vr) (K:KT):Rs:=l74o0 (vL w 0) (vI w 2) (fun n27 n28 b29 b30 v31 v32 v33 v34=>K .ret (fillS X74o0e1 [jL w 0,.i n27,.i ((-1:Int)),.i n28,.b b29,.b b30,.v v31,.v v32,.v v33,.v v34])) (fun n35 n36 b37 b38 b39 v40 v41 v42=>K .ret (fillS X74o0e2 [jL w 0,.i n35,.i ((-1:Int)),.i n36,.b b37,.b b38,.b b39,.v v40,.v v41,.v v42])) (fun n43 n44 b45 b46 b47 b48 v49 v50=>K .ret (fillS X74o0e3 [jL w 0,.i n43,.i ((-1:Int)),.i n44,.b b45,.b b46,.b b47,.b b48,.v v49,.v v50])) (fun n51 n52 b53 b54 b55 b56 b57 v58=>K .ret (fillS X74o0e4 [jL w 0,.i n51,.i ((-1:Int)),.i n52,.b b53,.b b54,.b b55,.b b56,.b b57,.v v58])) (fun n59 n60 b61 b62 b63 b64 b65 b66=>K .ret (fillS X74o0e5 [jL w 0,.i n59,.i ((-1:Int)),.i n60,.b b61,.b b62,.b b63,.b b64,.b b65,.b b66])) (fun n67 n68 b69 v70 v71 v72 v73 v74=>K (.exit 0) (fillS X74o0e6 [jL w 0,.i n67,jI w 2,.i n68,.b b69,.v v70,.v v71,.v v72,.v v73,.v v74])) m (vI w 1) (vI w 3) (vV w 4) (vV w 5) (vV w 6) (vV w 7) (vV w 8) (vV w 9)
def ST74:LT:=[(0,sumT T74o0 (L74o0 KK))]
def b74o0:=bd c74 0
theorem q74o0:Qp L74o0 C74 ST74 b74o0 1 T74o0:=fun m w K=>by kernel_rfl
theorem o74o0:SumOk C74 KK (sumT T74o0 (L74o0 KK)) (.loop b74o0):=loop_ok T74o0 L74o0 (sums_of (t:=ST74) ⟨fun _ _ h=>absurd h (by decide),trivial⟩) (fun _ _=>rfl) q74o0
theorem r74:Rp (v74 t74) C74 ST74 Tryz.f74 (sig 74) c74 A74:=fun w=>by kernel_rfl
theorem ok74:OkS sig (Gd G dep (dep 74)) 74 th74:=okM (v:=v74) r74 Tryz.func74 rfl ⟨sum_in (c':=.loop b74o0) (by kernel_rfl) (o74o0),trivial⟩ te74 ue74
def C75:=mkC 75
def c75:=gc Tryz.f75
def T75o0:TSt:=⟨[dL,dI,dI,dI,.any,.any,.any,.any,.any,.any],[]⟩
def X75o0e1:TSt:=⟨[dL,dI,dI,dI,dB,dB,.any,.any,.any,.any],[]⟩
def X75o0e2:TSt:=⟨[dL,dI,dI,dI,dB,dB,dB,.any,.any,.any],[]⟩
def X75o0e3:TSt:=⟨[dL,dI,dI,dI,dB,dB,dB,dB,.any,.any],[]⟩
def X75o0e4:TSt:=⟨[dL,dI,dI,dI,dB,dB,dB,dB,dB,.any],[]⟩
def X75o0e5:TSt:=⟨[dL,dI,dI,dI,dB,dB,dB,dB,dB,dB],[]⟩
def X75o0e6:TSt:=⟨[dL,dI,dI,dI,dB,.any,.any,.any,.any,.any],[]⟩
def L75o0 (m:Nat) (w:List Vr) (K:KT):Rs:=la75o0 tu71 (vL w 0) (vI w 2) (fun n27 n28 b29 b30 v31 v32 v33 v34=>K .ret (fillS X75o0e1 [jL w 0,.i n27,.i ((-1:Int)),.i n28,.b b29,.b b30,.v v31,.v v32,.v v33,.v v34])) (fun n35 n36 b37 b38 b39 v40 v41 v42=>K .ret (fillS X75o0e2 [jL w 0,.i n35,.i ((-1:Int)),.i n36,.b b37,.b b38,.b b39,.v v40,.v v41,.v v42])) (fun n43 n44 b45 b46 b47 b48 v49 v50=>K .ret (fillS X75o0e3 [jL w 0,.i n43,.i ((-1:Int)),.i n44,.b b45,.b b46,.b b47,.b b48,.v v49,.v v50])) (fun n51 n52 b53 b54 b55 b56 b57 v58=>K .ret (fillS X75o0e4 [jL w 0,.i n51,.i ((-1:Int)),.i n52,.b b53,.b b54,.b b55,.b b56,.b b57,.v v58])) (fun n59 n60 b61 b62 b63 b64 b65 b66=>K .ret (fillS X75o0e5 [jL w 0,.i n59,.i ((-1:Int)),.i n60,.b b61,.b b62,.b b63,.b b64,.b b65,.b b66])) (fun n67 n68 b69 v70 v71 v72 v73 v74=>K (.exit 0) (fillS X75o0e6 [jL w 0,.i n67,jI w 2,.i n68,.b b69,.v v70,.v v71,.v v72,.v v73,.v v74])) m (vI w 1) (vI w 3) (vV w 4) (vV w 5) (vV w 6) (vV w 7) (vV w 8) (vV w 9)
def ST75:LT:=[(0,sumT T75o0 (L75o0 KK))]
def b75o0:=bd c75 0
theorem q75o0:Qp L75o0 C75 ST75 b75o0 1 T75o0:=fun m w K=>by kernel_rfl
theorem o75o0:SumOk C75 KK (sumT T75o0 (L75o0 KK)) (.loop b75o0):=loop_ok T75o0 L75o0 (sums_of (t:=ST75) ⟨fun _ _ h=>absurd h (by decide),trivial⟩) (fun _ _=>rfl) q75o0
theorem r75:Rp (v75 (ta75 tu71)) C75 ST75 Tryz.f75 (sig 75) c75 A75:=fun w=>by kernel_rfl
theorem ok75:OkS sig (Gd G dep (dep 75)) 75 th75:=okM (v:=v75) r75 Tryz.func75 rfl ⟨sum_in (c':=.loop b75o0) (by kernel_rfl) (o75o0),trivial⟩ te75 ue75
def C31:=mkC 31
def c31:=gc Tryz.f31
def T31o0:TSt:=⟨[dL,dI,dI,dI,.any,.any,.any,.any,.any,.any],[]⟩
def X31o0e1:TSt:=⟨[dL,dI,dI,dI,dB,dB,.any,.any,.any,.any],[]⟩
def X31o0e2:TSt:=⟨[dL,dI,dI,dI,dB,dB,dB,.any,.any,.any],[]⟩
def X31o0e3:TSt:=⟨[dL,dI,dI,dI,dB,dB,dB,dB,.any,.any],[]⟩
def X31o0e4:TSt:=⟨[dL,dI,dI,dI,dB,dB,dB,dB,dB,.any],[]⟩
def X31o0e5:TSt:=⟨[dL,dI,dI,dI,dB,dB,dB,dB,dB,dB],[]⟩
def X31o0e6:TSt:=⟨[dL,dI,dI,dI,dB,.any,.any,.any,.any,.any],[]⟩
def L31o0 (m:Nat) (w:List Vr) (K:KT):Rs:=la31o0 tu73 tu74 tu75 (vL w 0) (vI w 2) (fun n27 n28 b29 b30 v31 v32 v33 v34=>K .ret (fillS X31o0e1 [jL w 0,.i n27,.i ((-1:Int)),.i n28,.b b29,.b b30,.v v31,.v v32,.v v33,.v v34])) (fun n35 n36 b37 b38 b39 v40 v41 v42=>K .ret (fillS X31o0e2 [jL w 0,.i n35,.i ((-1:Int)),.i n36,.b b37,.b b38,.b b39,.v v40,.v v41,.v v42])) (fun n43 n44 b45 b46 b47 b48 v49 v50=>K .ret (fillS X31o0e3 [jL w 0,.i n43,.i ((-1:Int)),.i n44,.b b45,.b b46,.b b47,.b b48,.v v49,.v v50])) (fun n51 n52 b53 b54 b55 b56 b57 v58=>K .ret (fillS X31o0e4 [jL w 0,.i n51,.i ((-1:Int)),.i n52,.b b53,.b b54,.b b55,.b b56,.b b57,.v v58])) (fun n59 n60 b61 b62 b63 b64 b65 b66=>K .ret (fillS X31o0e5 [jL w 0,.i n59,.i ((-1:Int)),.i n60,.b b61,.b b62,.b b63,.b b64,.b b65,.b b66])) (fun n67 n68 b69 v70 v71 v72 v73 v74=>K (.exit 0) (fillS X31o0e6 [jL w 0,.i n67,jI w 2,.i n68,.b b69,.v v70,.v v71,.v v72,.v v73,.v v74])) m (vI w 1) (vI w 3) (vV w 4) (vV w 5) (vV w 6) (vV w 7) (vV w 8) (vV w 9)
def ST31:LT:=[(0,sumT T31o0 (L31o0 KK))]
def b31o0:=bd c31 0
theorem q31o0:Qp L31o0 C31 ST31 b31o0 1 T31o0:=fun m w K=>by kernel_rfl
theorem o31o0:SumOk C31 KK (sumT T31o0 (L31o0 KK)) (.loop b31o0):=loop_ok T31o0 L31o0 (sums_of (t:=ST31) ⟨fun _ _ h=>absurd h (by decide),trivial⟩) (fun _ _=>rfl) q31o0
theorem r31:Rp (v31 (ta31 tu73 tu74 tu75)) C31 ST31 Tryz.f31 (sig 31) c31 A31:=fun w=>by kernel_rfl
theorem ok31:OkS sig (Gd G dep (dep 31)) 31 th31:=okM (v:=v31) r31 Tryz.func31 rfl ⟨sum_in (c':=.loop b31o0) (by kernel_rfl) (o31o0),trivial⟩ te31 ue31
def C77:=mkC 77
def c77:=gc Tryz.f77
def T77o0:TSt:=⟨[dL,dI,dI,dI,.any,.any,.any,.any,.any,.any],[]⟩
def X77o0e1:TSt:=⟨[dL,dI,dI,dI,dB,dB,.any,.any,.any,.any],[]⟩
def X77o0e2:TSt:=⟨[dL,dI,dI,dI,dB,dB,dB,.any,.any,.any],[]⟩
def X77o0e3:TSt:=⟨[dL,dI,dI,dI,dB,dB,dB,dB,.any,.any],[]⟩
def X77o0e4:TSt:=⟨[dL,dI,dI,dI,dB,dB,dB,dB,dB,.any],[]⟩
def X77o0e5:TSt:=⟨[dL,dI,dI,dI,dB,dB,dB,dB,dB,dB],[]⟩
def X77o0e6:TSt:=⟨[dL,dI,dI,dI,dB,.any,.any,.any,.any,.any],[]⟩
def L77o0 (m:Nat) (w:List Vr) (K:KT):Rs:=la77o0 tu71 (vL w 0) (vI w 2) (fun n27 n28 b29 b30 v31 v32 v33 v34=>K .ret (fillS X77o0e1 [jL w 0,.i n27,.i ((-1:Int)),.i n28,.b b29,.b b30,.v v31,.v v32,.v v33,.v v34])) (fun n35 n36 b37 b38 b39 v40 v41 v42=>K .ret (fillS X77o0e2 [jL w 0,.i n35,.i ((-1:Int)),.i n36,.b b37,.b b38,.b b39,.v v40,.v v41,.v v42])) (fun n43 n44 b45 b46 b47 b48 v49 v50=>K .ret (fillS X77o0e3 [jL w 0,.i n43,.i ((-1:Int)),.i n44,.b b45,.b b46,.b b47,.b b48,.v v49,.v v50])) (fun n51 n52 b53 b54 b55 b56 b57 v58=>K .ret (fillS X77o0e4 [jL w 0,.i n51,.i ((-1:Int)),.i n52,.b b53,.b b54,.b b55,.b b56,.b b57,.v v58])) (fun n59 n60 b61 b62 b63 b64 b65 b66=>K .ret (fillS X77o0e5 [jL w 0,.i n59,.i ((-1:Int)),.i n60,.b b61,.b b62,.b b63,.b b64,.b b65,.b b66])) (fun n67 n68 b69 v70 v71 v72 v73 v74=>K (.exit 0) (fillS X77o0e6 [jL w 0,.i n67,jI w 2,.i n68,.b b69,.v v70,.v v71,.v v72,.v v73,.v v74])) m (vI w 1) (vI w 3) (vV w 4) (vV w 5) (vV w 6) (vV w 7) (vV w 8) (vV w 9)
def ST77:LT:=[(0,sumT T77o0 (L77o0 KK))]
def b77o0:=bd c77 0
theorem q77o0:Qp L77o0 C77 ST77 b77o0 1 T77o0:=fun m w K=>by kernel_rfl
theorem o77o0:SumOk C77 KK (sumT T77o0 (L77o0 KK)) (.loop b77o0):=loop_ok T77o0 L77o0 (sums_of (t:=ST77) ⟨fun _ _ h=>absurd h (by decide),trivial⟩) (fun _ _=>rfl) q77o0
theorem r77:Rp (v77 (ta77 tu71)) C77 ST77 Tryz.f77 (sig 77) c77 A77:=fun w=>by kernel_rfl
theorem ok77:OkS sig (Gd G dep (dep 77)) 77 th77:=okM (v:=v77) r77 Tryz.func77 rfl ⟨sum_in (c':=.loop b77o0) (by kernel_rfl) (o77o0),trivial⟩ te77 ue77
def C33:=mkC 33
def c33:=gc Tryz.f33
def T33o0:TSt:=⟨[dL,dI,dI,dI,.any,.any,.any,.any,.any,.any,.any,.any,.any,.any],[]⟩
def X33o0e1:TSt:=⟨[dL,dI,dI,dI,dB,dB,.any,.any,.any,.any,.any,.any,.any,.any],[]⟩
def X33o0e2:TSt:=⟨[dL,dI,dI,dI,dB,dB,dB,.any,.any,.any,.any,.any,.any,.any],[]⟩
def X33o0e3:TSt:=⟨[dL,dI,dI,dI,dB,dB,dB,dB,.any,.any,.any,.any,.any,.any],[]⟩
def X33o0e4:TSt:=⟨[dL,dI,dI,dI,dB,dB,dB,dB,dB,.any,.any,.any,.any,.any],[]⟩
def X33o0e5:TSt:=⟨[dL,dI,dI,dI,dB,dB,dB,dB,dB,dB,.any,.any,.any,.any],[]⟩
def X33o0e6:TSt:=⟨[dL,dI,dI,dI,dB,dB,dB,dB,dB,dB,dB,.any,.any,.any],[]⟩
def X33o0e7:TSt:=⟨[dL,dI,dI,dI,dB,dB,dB,dB,dB,dB,dB,dB,.any,.any],[]⟩
def X33o0e8:TSt:=⟨[dL,dI,dI,dI,dB,dB,dB,dB,dB,dB,dB,dB,dB,.any],[]⟩
def X33o0e9:TSt:=⟨[dL,dI,dI,dI,dB,dB,dB,dB,dB,dB,dB,dB,dB,dB],[]⟩
def X33o0e10:TSt:=⟨[dL,dI,dI,dI,dB,.any,.any,.any,.any,.any,.any,.any,.any,.any],[]⟩
def L33o0 (m:Nat) (w:List Vr) (K:KT):Rs:=la33o0 tu71 (vL w 0) (vI w 2) (fun n35 n36 b37 b38 v39 v40 v41 v42 v43 v44 v45 v46=>K .ret (fillS X33o0e1 [jL w 0,.i n35,.i ((-1:Int)),.i n36,.b b37,.b b38,.v v39,.v v40,.v v41,.v v42,.v v43,.v v44,.v v45,.v v46])) (fun n47 n48 b49 b50 b51 v52 v53 v54 v55 v56 v57 v58=>K .ret (fillS X33o0e2 [jL w 0,.i n47,.i ((-1:Int)),.i n48,.b b49,.b b50,.b b51,.v v52,.v v53,.v v54,.v v55,.v v56,.v v57,.v v58])) (fun n59 n60 b61 b62 b63 b64 v65 v66 v67 v68 v69 v70=>K .ret (fillS X33o0e3 [jL w 0,.i n59,.i ((-1:Int)),.i n60,.b b61,.b b62,.b b63,.b b64,.v v65,.v v66,.v v67,.v v68,.v v69,.v v70])) (fun n71 n72 b73 b74 b75 b76 b77 v78 v79 v80 v81 v82=>K .ret (fillS X33o0e4 [jL w 0,.i n71,.i ((-1:Int)),.i n72,.b b73,.b b74,.b b75,.b b76,.b b77,.v v78,.v v79,.v v80,.v v81,.v v82])) (fun n83 n84 b85 b86 b87 b88 b89 b90 v91 v92 v93 v94=>K .ret (fillS X33o0e5 [jL w 0,.i n83,.i ((-1:Int)),.i n84,.b b85,.b b86,.b b87,.b b88,.b b89,.b b90,.v v91,.v v92,.v v93,.v v94])) (fun n95 n96 b97 b98 b99 b100 b101 b102 b103 v104 v105 v106=>K .ret (fillS X33o0e6 [jL w 0,.i n95,.i ((-1:Int)),.i n96,.b b97,.b b98,.b b99,.b b100,.b b101,.b b102,.b b103,.v v104,.v v105,.v v106])) (fun n107 n108 b109 b110 b111 b112 b113 b114 b115 b116 v117 v118=>K .ret (fillS X33o0e7 [jL w 0,.i n107,.i ((-1:Int)),.i n108,.b b109,.b b110,.b b111,.b b112,.b b113,.b b114,.b b115,.b b116,.v v117,.v v118])) (fun n119 n120 b121 b122 b123 b124 b125 b126 b127 b128 b129 v130=>K .ret (fillS X33o0e8 [jL w 0,.i n119,.i ((-1:Int)),.i n120,.b b121,.b b122,.b b123,.b b124,.b b125,.b b126,.b b127,.b b128,.b b129,.v v130])) (fun n131 n132 b133 b134 b135 b136 b137 b138 b139 b140 b141 b142=>K .ret (fillS X33o0e9 [jL w 0,.i n131,.i ((-1:Int)),.i n132,.b b133,.b b134,.b b135,.b b136,.b b137,.b b138,.b b139,.b b140,.b b141,.b b142])) (fun n143 n144 b145 v146 v147 v148 v149 v150 v151 v152 v153 v154=>K (.exit 0) (fillS X33o0e10 [jL w 0,.i n143,jI w 2,.i n144,.b b145,.v v146,.v v147,.v v148,.v v149,.v v150,.v v151,.v v152,.v v153,.v v154])) m (vI w 1) (vI w 3) (vV w 4) (vV w 5) (vV w 6) (vV w 7) (vV w 8) (vV w 9) (vV w 10) (vV w 11) (vV w 12) (vV w 13)
def ST33:LT:=[(0,sumT T33o0 (L33o0 KK))]
def b33o0:=bd c33 0
theorem q33o0:Qp L33o0 C33 ST33 b33o0 1 T33o0:=fun m w K=>by kernel_rfl
theorem o33o0:SumOk C33 KK (sumT T33o0 (L33o0 KK)) (.loop b33o0):=loop_ok T33o0 L33o0 (sums_of (t:=ST33) ⟨fun _ _ h=>absurd h (by decide),trivial⟩) (fun _ _=>rfl) q33o0
theorem r33:Rp (v33 (ta33 tu71)) C33 ST33 Tryz.f33 (sig 33) c33 A33:=fun w=>by kernel_rfl
theorem ok33:OkS sig (Gd G dep (dep 33)) 33 th33:=okM (v:=v33) r33 Tryz.func33 rfl ⟨sum_in (c':=.loop b33o0) (by kernel_rfl) (o33o0),trivial⟩ te33 ue33
def C43:=mkC 43
def c43:=gc Tryz.f43
def T43o0:TSt:=⟨[dL,dI,dI,dI,.any,.any,.any,.any,.any,.any,.any,.any,.any,.any,.any,.any,.any,.any,.any,.any,.any,.any,.any,.any,.any,.any,.any,.any,.any,.any,.any,.any,.any,.any,.any],[]⟩
def X43o0e1:TSt:=⟨[dL,dI,dI,dI,dB,dB,.any,.any,.any,.any,.any,.any,.any,.any,.any,.any,.any,.any,.any,.any,.any,.any,.any,.any,.any,.any,.any,.any,.any,.any,.any,.any,.any,.any,.any],[]⟩
def X43o0e2:TSt:=⟨[dL,dI,dI,dI,dB,dB,dB,.any,.any,.any,.any,.any,.any,.any,.any,.any,.any,.any,.any,.any,.any,.any,.any,.any,.any,.any,.any,.any,.any,.any,.any,.any,.any,.any,.any],[]⟩
def X43o0e3:TSt:=⟨[dL,dI,dI,dI,dB,dB,dB,dB,.any,.any,.any,.any,.any,.any,.any,.any,.any,.any,.any,.any,.any,.any,.any,.any,.any,.any,.any,.any,.any,.any,.any,.any,.any,.any,.any],[]⟩
def X43o0e4:TSt:=⟨[dL,dI,dI,dI,dB,dB,dB,dB,dB,.any,.any,.any,.any,.any,.any,.any,.any,.any,.any,.any,.any,.any,.any,.any,.any,.any,.any,.any,.any,.any,.any,.any,.any,.any,.any],[]⟩
def X43o0e5:TSt:=⟨[dL,dI,dI,dI,dB,dB,dB,dB,dB,dB,.any,.any,.any,.any,.any,.any,.any,.any,.any,.any,.any,.any,.any,.any,.any,.any,.any,.any,.any,.any,.any,.any,.any,.any,.any],[]⟩
def X43o0e6:TSt:=⟨[dL,dI,dI,dI,dB,dB,dB,dB,dB,dB,dB,.any,.any,.any,.any,.any,.any,.any,.any,.any,.any,.any,.any,.any,.any,.any,.any,.any,.any,.any,.any,.any,.any,.any,.any],[]⟩
def X43o0e7:TSt:=⟨[dL,dI,dI,dI,dB,dB,dB,dB,dB,dB,dB,dB,.any,.any,.any,.any,.any,.any,.any,.any,.any,.any,.any,.any,.any,.any,.any,.any,.any,.any,.any,.any,.any,.any,.any],[]⟩
def X43o0e8:TSt:=⟨[dL,dI,dI,dI,dB,dB,dB,dB,dB,dB,dB,dB,dB,.any,.any,.any,.any,.any,.any,.any,.any,.any,.any,.any,.any,.any,.any,.any,.any,.any,.any,.any,.any,.any,.any],[]⟩
def X43o0e9:TSt:=⟨[dL,dI,dI,dI,dB,dB,dB,dB,dB,dB,dB,dB,dB,dB,.any,.any,.any,.any,.any,.any,.any,.any,.any,.any,.any,.any,.any,.any,.any,.any,.any,.any,.any,.any,.any],[]⟩
def X43o0e10:TSt:=⟨[dL,dI,dI,dI,dB,dB,dB,dB,dB,dB,dB,dB,dB,dB,dB,.any,.any,.any,.any,.any,.any,.any,.any,.any,.any,.any,.any,.any,.any,.any,.any,.any,.any,.any,.any],[]⟩
def X43o0e11:TSt:=⟨[dL,dI,dI,dI,dB,dB,dB,dB,dB,dB,dB,dB,dB,dB,dB,dB,.any,.any,.any,.any,.any,.any,.any,.any,.any,.any,.any,.any,.any,.any,.any,.any,.any,.any,.any],[]⟩
def X43o0e12:TSt:=⟨[dL,dI,dI,dI,dB,dB,dB,dB,dB,dB,dB,dB,dB,dB,dB,dB,dB,.any,.any,.any,.any,.any,.any,.any,.any,.any,.any,.any,.any,.any,.any,.any,.any,.any,.any],[]⟩
def X43o0e13:TSt:=⟨[dL,dI,dI,dI,dB,dB,dB,dB,dB,dB,dB,dB,dB,dB,dB,dB,dB,dB,.any,.any,.any,.any,.any,.any,.any,.any,.any,.any,.any,.any,.any,.any,.any,.any,.any],[]⟩
def X43o0e14:TSt:=⟨[dL,dI,dI,dI,dB,dB,dB,dB,dB,dB,dB,dB,dB,dB,dB,dB,dB,dB,dB,.any,.any,.any,.any,.any,.any,.any,.any,.any,.any,.any,.any,.any,.any,.any,.any],[]⟩
def X43o0e15:TSt:=⟨[dL,dI,dI,dI,dB,dB,dB,dB,dB,dB,dB,dB,dB,dB,dB,dB,dB,dB,dB,dB,.any,.any,.any,.any,.any,.any,.any,.any,.any,.any,.any,.any,.any,.any,.any],[]⟩
def X43o0e16:TSt:=⟨[dL,dI,dI,dI,dB,dB,dB,dB,dB,dB,dB,dB,dB,dB,dB,dB,dB,dB,dB,dB,dB,.any,.any,.any,.any,.any,.any,.any,.any,.any,.any,.any,.any,.any,.any],[]⟩
def X43o0e17:TSt:=⟨[dL,dI,dI,dI,dB,dB,dB,dB,dB,dB,dB,dB,dB,dB,dB,dB,dB,dB,dB,dB,dB,dB,.any,.any,.any,.any,.any,.any,.any,.any,.any,.any,.any,.any,.any],[]⟩
def X43o0e18:TSt:=⟨[dL,dI,dI,dI,dB,dB,dB,dB,dB,dB,dB,dB,dB,dB,dB,dB,dB,dB,dB,dB,dB,dB,dB,.any,.any,.any,.any,.any,.any,.any,.any,.any,.any,.any,.any],[]⟩
def X43o0e19:TSt:=⟨[dL,dI,dI,dI,dB,dB,dB,dB,dB,dB,dB,dB,dB,dB,dB,dB,dB,dB,dB,dB,dB,dB,dB,dB,.any,.any,.any,.any,.any,.any,.any,.any,.any,.any,.any],[]⟩
def X43o0e20:TSt:=⟨[dL,dI,dI,dI,dB,dB,dB,dB,dB,dB,dB,dB,dB,dB,dB,dB,dB,dB,dB,dB,dB,dB,dB,dB,dB,.any,.any,.any,.any,.any,.any,.any,.any,.any,.any],[]⟩
def X43o0e21:TSt:=⟨[dL,dI,dI,dI,dB,dB,dB,dB,dB,dB,dB,dB,dB,dB,dB,dB,dB,dB,dB,dB,dB,dB,dB,dB,dB,dB,.any,.any,.any,.any,.any,.any,.any,.any,.any],[]⟩
def X43o0e22:TSt:=⟨[dL,dI,dI,dI,dB,dB,dB,dB,dB,dB,dB,dB,dB,dB,dB,dB,dB,dB,dB,dB,dB,dB,dB,dB,dB,dB,dB,.any,.any,.any,.any,.any,.any,.any,.any],[]⟩
def X43o0e23:TSt:=⟨[dL,dI,dI,dI,dB,dB,dB,dB,dB,dB,dB,dB,dB,dB,dB,dB,dB,dB,dB,dB,dB,dB,dB,dB,dB,dB,dB,dB,.any,.any,.any,.any,.any,.any,.any],[]⟩
def X43o0e24:TSt:=⟨[dL,dI,dI,dI,dB,dB,dB,dB,dB,dB,dB,dB,dB,dB,dB,dB,dB,dB,dB,dB,dB,dB,dB,dB,dB,dB,dB,dB,dB,.any,.any,.any,.any,.any,.any],[]⟩
def X43o0e25:TSt:=⟨[dL,dI,dI,dI,dB,dB,dB,dB,dB,dB,dB,dB,dB,dB,dB,dB,dB,dB,dB,dB,dB,dB,dB,dB,dB,dB,dB,dB,dB,dB,.any,.any,.any,.any,.any],[]⟩
def X43o0e26:TSt:=⟨[dL,dI,dI,dI,dB,dB,dB,dB,dB,dB,dB,dB,dB,dB,dB,dB,dB,dB,dB,dB,dB,dB,dB,dB,dB,dB,dB,dB,dB,dB,dB,.any,.any,.any,.any],[]⟩
def X43o0e27:TSt:=⟨[dL,dI,dI,dI,dB,dB,dB,dB,dB,dB,dB,dB,dB,dB,dB,dB,dB,dB,dB,dB,dB,dB,dB,dB,dB,dB,dB,dB,dB,dB,dB,dB,.any,.any,.any],[]⟩
def X43o0e28:TSt:=⟨[dL,dI,dI,dI,dB,dB,dB,dB,dB,dB,dB,dB,dB,dB,dB,dB,dB,dB,dB,dB,dB,dB,dB,dB,dB,dB,dB,dB,dB,dB,dB,dB,dB,.any,.any],[]⟩
def X43o0e29:TSt:=⟨[dL,dI,dI,dI,dB,dB,dB,dB,dB,dB,dB,dB,dB,dB,dB,dB,dB,dB,dB,dB,dB,dB,dB,dB,dB,dB,dB,dB,dB,dB,dB,dB,dB,dB,.any],[]⟩
def X43o0e30:TSt:=⟨[dL,dI,dI,dI,dB,dB,dB,dB,dB,dB,dB,dB,dB,dB,dB,dB,dB,dB,dB,dB,dB,dB,dB,dB,dB,dB,dB,dB,dB,dB,dB,dB,dB,dB,dB],[]⟩
def X43o0e31:TSt:=⟨[dL,dI,dI,dI,dB,.any,.any,.any,.any,.any,.any,.any,.any,.any,.any,.any,.any,.any,.any,.any,.any,.any,.any,.any,.any,.any,.any,.any,.any,.any,.any,.any,.any,.any,.any],[]⟩
def L43o0 (m:Nat) (w:List Vr) (K:KT):Rs:=la43o0 tu31 tu33 tu46 tu71 tu72 tu77 (vL w 0) (vI w 2) (fun n77 n78 b79 b80 v81 v82 v83 v84 v85 v86 v87 v88 v89 v90 v91 v92 v93 v94 v95 v96 v97 v98 v99 v100 v101 v102 v103 v104 v105 v106 v107 v108 v109=>K .ret (fillS X43o0e1 [jL w 0,.i n77,.i ((-1:Int)),.i n78,.b b79,.b b80,.v v81,.v v82,.v v83,.v v84,.v v85,.v v86,.v v87,.v v88,.v v89,.v v90,.v v91,.v v92,.v v93,.v v94,.v v95,.v v96,.v v97,.v v98,.v v99,.v v100,.v v101,.v v102,.v v103,.v v104,.v v105,.v v106,.v v107,.v v108,.v v109])) (fun n110 n111 b112 b113 b114 v115 v116 v117 v118 v119 v120 v121 v122 v123 v124 v125 v126 v127 v128 v129 v130 v131 v132 v133 v134 v135 v136 v137 v138 v139 v140 v141 v142=>K .ret (fillS X43o0e2 [jL w 0,.i n110,.i ((-1:Int)),.i n111,.b b112,.b b113,.b b114,.v v115,.v v116,.v v117,.v v118,.v v119,.v v120,.v v121,.v v122,.v v123,.v v124,.v v125,.v v126,.v v127,.v v128,.v v129,.v v130,.v v131,.v v132,.v v133,.v v134,.v v135,.v v136,.v v137,.v v138,.v v139,.v v140,.v v141,.v v142])) (fun n143 n144 b145 b146 b147 b148 v149 v150 v151 v152 v153 v154 v155 v156 v157 v158 v159 v160 v161 v162 v163 v164 v165 v166 v167 v168 v169 v170 v171 v172 v173 v174 v175=>K .ret (fillS X43o0e3 [jL w 0,.i n143,.i ((-1:Int)),.i n144,.b b145,.b b146,.b b147,.b b148,.v v149,.v v150,.v v151,.v v152,.v v153,.v v154,.v v155,.v v156,.v v157,.v v158,.v v159,.v v160,.v v161,.v v162,.v v163,.v v164,.v v165,.v v166,.v v167,.v v168,.v v169,.v v170,.v v171,.v v172,.v v173,.v v174,.v v175])) (fun n176 n177 b178 b179 b180 b181 b182 v183 v184 v185 v186 v187 v188 v189 v190 v191 v192 v193 v194 v195 v196 v197 v198 v199 v200 v201 v202 v203 v204 v205 v206 v207 v208=>K .ret (fillS X43o0e4 [jL w 0,.i n176,.i ((-1:Int)),.i n177,.b b178,.b b179,.b b180,.b b181,.b b182,.v v183,.v v184,.v v185,.v v186,.v v187,.v v188,.v v189,.v v190,.v v191,.v v192,.v v193,.v v194,.v v195,.v v196,.v v197,.v v198,.v v199,.v v200,.v v201,.v v202,.v v203,.v v204,.v v205,.v v206,.v v207,.v v208])) (fun n209 n210 b211 b212 b213 b214 b215 b216 v217 v218 v219 v220 v221 v222 v223 v224 v225 v226 v227 v228 v229 v230 v231 v232 v233 v234 v235 v236 v237 v238 v239 v240 v241=>K .ret (fillS X43o0e5 [jL w 0,.i n209,.i ((-1:Int)),.i n210,.b b211,.b b212,.b b213,.b b214,.b b215,.b b216,.v v217,.v v218,.v v219,.v v220,.v v221,.v v222,.v v223,.v v224,.v v225,.v v226,.v v227,.v v228,.v v229,.v v230,.v v231,.v v232,.v v233,.v v234,.v v235,.v v236,.v v237,.v v238,.v v239,.v v240,.v v241])) (fun n242 n243 b244 b245 b246 b247 b248 b249 b250 v251 v252 v253 v254 v255 v256 v257 v258 v259 v260 v261 v262 v263 v264 v265 v266 v267 v268 v269 v270 v271 v272 v273 v274=>K .ret (fillS X43o0e6 [jL w 0,.i n242,.i ((-1:Int)),.i n243,.b b244,.b b245,.b b246,.b b247,.b b248,.b b249,.b b250,.v v251,.v v252,.v v253,.v v254,.v v255,.v v256,.v v257,.v v258,.v v259,.v v260,.v v261,.v v262,.v v263,.v v264,.v v265,.v v266,.v v267,.v v268,.v v269,.v v270,.v v271,.v v272,.v v273,.v v274])) (fun n275 n276 b277 b278 b279 b280 b281 b282 b283 b284 v285 v286 v287 v288 v289 v290 v291 v292 v293 v294 v295 v296 v297 v298 v299 v300 v301 v302 v303 v304 v305 v306 v307=>K .ret (fillS X43o0e7 [jL w 0,.i n275,.i ((-1:Int)),.i n276,.b b277,.b b278,.b b279,.b b280,.b b281,.b b282,.b b283,.b b284,.v v285,.v v286,.v v287,.v v288,.v v289,.v v290,.v v291,.v v292,.v v293,.v v294,.v v295,.v v296,.v v297,.v v298,.v v299,.v v300,.v v301,.v v302,.v v303,.v v304,.v v305,.v v306,.v v307])) (fun n308 n309 b310 b311 b312 b313 b314 b315 b316 b317 b318 v319 v320 v321 v322 v323 v324 v325 v326 v327 v328 v329 v330 v331 v332 v333 v334 v335 v336 v337 v338 v339 v340=>K .ret (fillS X43o0e8 [jL w 0,.i n308,.i ((-1:Int)),.i n309,.b b310,.b b311,.b b312,.b b313,.b b314,.b b315,.b b316,.b b317,.b b318,.v v319,.v v320,.v v321,.v v322,.v v323,.v v324,.v v325,.v v326,.v v327,.v v328,.v v329,.v v330,.v v331,.v v332,.v v333,.v v334,.v v335,.v v336,.v v337,.v v338,.v v339,.v v340])) (fun n341 n342 b343 b344 b345 b346 b347 b348 b349 b350 b351 b352 v353 v354 v355 v356 v357 v358 v359 v360 v361 v362 v363 v364 v365 v366 v367 v368 v369 v370 v371 v372 v373=>K .ret (fillS X43o0e9 [jL w 0,.i n341,.i ((-1:Int)),.i n342,.b b343,.b b344,.b b345,.b b346,.b b347,.b b348,.b b349,.b b350,.b b351,.b b352,.v v353,.v v354,.v v355,.v v356,.v v357,.v v358,.v v359,.v v360,.v v361,.v v362,.v v363,.v v364,.v v365,.v v366,.v v367,.v v368,.v v369,.v v370,.v v371,.v v372,.v v373])) (fun n374 n375 b376 b377 b378 b379 b380 b381 b382 b383 b384 b385 b386 v387 v388 v389 v390 v391 v392 v393 v394 v395 v396 v397 v398 v399 v400 v401 v402 v403 v404 v405 v406=>K .ret (fillS X43o0e10 [jL w 0,.i n374,.i ((-1:Int)),.i n375,.b b376,.b b377,.b b378,.b b379,.b b380,.b b381,.b b382,.b b383,.b b384,.b b385,.b b386,.v v387,.v v388,.v v389,.v v390,.v v391,.v v392,.v v393,.v v394,.v v395,.v v396,.v v397,.v v398,.v v399,.v v400,.v v401,.v v402,.v v403,.v v404,.v v405,.v v406])) (fun n407 n408 b409 b410 b411 b412 b413 b414 b415 b416 b417 b418 b419 b420 v421 v422 v423 v424 v425 v426 v427 v428 v429 v430 v431 v432 v433 v434 v435 v436 v437 v438 v439=>K .ret (fillS X43o0e11 [jL w 0,.i n407,.i ((-1:Int)),.i n408,.b b409,.b b410,.b b411,.b b412,.b b413,.b b414,.b b415,.b b416,.b b417,.b b418,.b b419,.b b420,.v v421,.v v422,.v v423,.v v424,.v v425,.v v426,.v v427,.v v428,.v v429,.v v430,.v v431,.v v432,.v v433,.v v434,.v v435,.v v436,.v v437,.v v438,.v v439])) (fun n440 n441 b442 b443 b444 b445 b446 b447 b448 b449 b450 b451 b452 b453 b454 v455 v456 v457 v458 v459 v460 v461 v462 v463 v464 v465 v466 v467 v468 v469 v470 v471 v472=>K .ret (fillS X43o0e12 [jL w 0,.i n440,.i ((-1:Int)),.i n441,.b b442,.b b443,.b b444,.b b445,.b b446,.b b447,.b b448,.b b449,.b b450,.b b451,.b b452,.b b453,.b b454,.v v455,.v v456,.v v457,.v v458,.v v459,.v v460,.v v461,.v v462,.v v463,.v v464,.v v465,.v v466,.v v467,.v v468,.v v469,.v v470,.v v471,.v v472])) (fun n473 n474 b475 b476 b477 b478 b479 b480 b481 b482 b483 b484 b485 b486 b487 b488 v489 v490 v491 v492 v493 v494 v495 v496 v497 v498 v499 v500 v501 v502 v503 v504 v505=>K .ret (fillS X43o0e13 [jL w 0,.i n473,.i ((-1:Int)),.i n474,.b b475,.b b476,.b b477,.b b478,.b b479,.b b480,.b b481,.b b482,.b b483,.b b484,.b b485,.b b486,.b b487,.b b488,.v v489,.v v490,.v v491,.v v492,.v v493,.v v494,.v v495,.v v496,.v v497,.v v498,.v v499,.v v500,.v v501,.v v502,.v v503,.v v504,.v v505])) (fun n506 n507 b508 b509 b510 b511 b512 b513 b514 b515 b516 b517 b518 b519 b520 b521 b522 v523 v524 v525 v526 v527 v528 v529 v530 v531 v532 v533 v534 v535 v536 v537 v538=>K .ret (fillS X43o0e14 [jL w 0,.i n506,.i ((-1:Int)),.i n507,.b b508,.b b509,.b b510,.b b511,.b b512,.b b513,.b b514,.b b515,.b b516,.b b517,.b b518,.b b519,.b b520,.b b521,.b b522,.v v523,.v v524,.v v525,.v v526,.v v527,.v v528,.v v529,.v v530,.v v531,.v v532,.v v533,.v v534,.v v535,.v v536,.v v537,.v v538])) (fun n539 n540 b541 b542 b543 b544 b545 b546 b547 b548 b549 b550 b551 b552 b553 b554 b555 b556 v557 v558 v559 v560 v561 v562 v563 v564 v565 v566 v567 v568 v569 v570 v571=>K .ret (fillS X43o0e15 [jL w 0,.i n539,.i ((-1:Int)),.i n540,.b b541,.b b542,.b b543,.b b544,.b b545,.b b546,.b b547,.b b548,.b b549,.b b550,.b b551,.b b552,.b b553,.b b554,.b b555,.b b556,.v v557,.v v558,.v v559,.v v560,.v v561,.v v562,.v v563,.v v564,.v v565,.v v566,.v v567,.v v568,.v v569,.v v570,.v v571])) (fun n572 n573 b574 b575 b576 b577 b578 b579 b580 b581 b582 b583 b584 b585 b586 b587 b588 b589 b590 v591 v592 v593 v594 v595 v596 v597 v598 v599 v600 v601 v602 v603 v604=>K .ret (fillS X43o0e16 [jL w 0,.i n572,.i ((-1:Int)),.i n573,.b b574,.b b575,.b b576,.b b577,.b b578,.b b579,.b b580,.b b581,.b b582,.b b583,.b b584,.b b585,.b b586,.b b587,.b b588,.b b589,.b b590,.v v591,.v v592,.v v593,.v v594,.v v595,.v v596,.v v597,.v v598,.v v599,.v v600,.v v601,.v v602,.v v603,.v v604])) (fun n605 n606 b607 b608 b609 b610 b611 b612 b613 b614 b615 b616 b617 b618 b619 b620 b621 b622 b623 b624 v625 v626 v627 v628 v629 v630 v631 v632 v633 v634 v635 v636 v637=>K .ret (fillS X43o0e17 [jL w 0,.i n605,.i ((-1:Int)),.i n606,.b b607,.b b608,.b b609,.b b610,.b b611,.b b612,.b b613,.b b614,.b b615,.b b616,.b b617,.b b618,.b b619,.b b620,.b b621,.b b622,.b b623,.b b624,.v v625,.v v626,.v v627,.v v628,.v v629,.v v630,.v v631,.v v632,.v v633,.v v634,.v v635,.v v636,.v v637])) (fun n638 n639 b640 b641 b642 b643 b644 b645 b646 b647 b648 b649 b650 b651 b652 b653 b654 b655 b656 b657 b658 v659 v660 v661 v662 v663 v664 v665 v666 v667 v668 v669 v670=>K .ret (fillS X43o0e18 [jL w 0,.i n638,.i ((-1:Int)),.i n639,.b b640,.b b641,.b b642,.b b643,.b b644,.b b645,.b b646,.b b647,.b b648,.b b649,.b b650,.b b651,.b b652,.b b653,.b b654,.b b655,.b b656,.b b657,.b b658,.v v659,.v v660,.v v661,.v v662,.v v663,.v v664,.v v665,.v v666,.v v667,.v v668,.v v669,.v v670])) (fun n671 n672 b673 b674 b675 b676 b677 b678 b679 b680 b681 b682 b683 b684 b685 b686 b687 b688 b689 b690 b691 b692 v693 v694 v695 v696 v697 v698 v699 v700 v701 v702 v703=>K .ret (fillS X43o0e19 [jL w 0,.i n671,.i ((-1:Int)),.i n672,.b b673,.b b674,.b b675,.b b676,.b b677,.b b678,.b b679,.b b680,.b b681,.b b682,.b b683,.b b684,.b b685,.b b686,.b b687,.b b688,.b b689,.b b690,.b b691,.b b692,.v v693,.v v694,.v v695,.v v696,.v v697,.v v698,.v v699,.v v700,.v v701,.v v702,.v v703])) (fun n704 n705 b706 b707 b708 b709 b710 b711 b712 b713 b714 b715 b716 b717 b718 b719 b720 b721 b722 b723 b724 b725 b726 v727 v728 v729 v730 v731 v732 v733 v734 v735 v736=>K .ret (fillS X43o0e20 [jL w 0,.i n704,.i ((-1:Int)),.i n705,.b b706,.b b707,.b b708,.b b709,.b b710,.b b711,.b b712,.b b713,.b b714,.b b715,.b b716,.b b717,.b b718,.b b719,.b b720,.b b721,.b b722,.b b723,.b b724,.b b725,.b b726,.v v727,.v v728,.v v729,.v v730,.v v731,.v v732,.v v733,.v v734,.v v735,.v v736])) (fun n737 n738 b739 b740 b741 b742 b743 b744 b745 b746 b747 b748 b749 b750 b751 b752 b753 b754 b755 b756 b757 b758 b759 b760 v761 v762 v763 v764 v765 v766 v767 v768 v769=>K .ret (fillS X43o0e21 [jL w 0,.i n737,.i ((-1:Int)),.i n738,.b b739,.b b740,.b b741,.b b742,.b b743,.b b744,.b b745,.b b746,.b b747,.b b748,.b b749,.b b750,.b b751,.b b752,.b b753,.b b754,.b b755,.b b756,.b b757,.b b758,.b b759,.b b760,.v v761,.v v762,.v v763,.v v764,.v v765,.v v766,.v v767,.v v768,.v v769])) (fun n770 n771 b772 b773 b774 b775 b776 b777 b778 b779 b780 b781 b782 b783 b784 b785 b786 b787 b788 b789 b790 b791 b792 b793 b794 v795 v796 v797 v798 v799 v800 v801 v802=>K .ret (fillS X43o0e22 [jL w 0,.i n770,.i ((-1:Int)),.i n771,.b b772,.b b773,.b b774,.b b775,.b b776,.b b777,.b b778,.b b779,.b b780,.b b781,.b b782,.b b783,.b b784,.b b785,.b b786,.b b787,.b b788,.b b789,.b b790,.b b791,.b b792,.b b793,.b b794,.v v795,.v v796,.v v797,.v v798,.v v799,.v v800,.v v801,.v v802])) (fun n803 n804 b805 b806 b807 b808 b809 b810 b811 b812 b813 b814 b815 b816 b817 b818 b819 b820 b821 b822 b823 b824 b825 b826 b827 b828 v829 v830 v831 v832 v833 v834 v835=>K .ret (fillS X43o0e23 [jL w 0,.i n803,.i ((-1:Int)),.i n804,.b b805,.b b806,.b b807,.b b808,.b b809,.b b810,.b b811,.b b812,.b b813,.b b814,.b b815,.b b816,.b b817,.b b818,.b b819,.b b820,.b b821,.b b822,.b b823,.b b824,.b b825,.b b826,.b b827,.b b828,.v v829,.v v830,.v v831,.v v832,.v v833,.v v834,.v v835])) (fun n836 n837 b838 b839 b840 b841 b842 b843 b844 b845 b846 b847 b848 b849 b850 b851 b852 b853 b854 b855 b856 b857 b858 b859 b860 b861 b862 v863 v864 v865 v866 v867 v868=>K .ret (fillS X43o0e24 [jL w 0,.i n836,.i ((-1:Int)),.i n837,.b b838,.b b839,.b b840,.b b841,.b b842,.b b843,.b b844,.b b845,.b b846,.b b847,.b b848,.b b849,.b b850,.b b851,.b b852,.b b853,.b b854,.b b855,.b b856,.b b857,.b b858,.b b859,.b b860,.b b861,.b b862,.v v863,.v v864,.v v865,.v v866,.v v867,.v v868])) (fun n869 n870 b871 b872 b873 b874 b875 b876 b877 b878 b879 b880 b881 b882 b883 b884 b885 b886 b887 b888 b889 b890 b891 b892 b893 b894 b895 b896 v897 v898 v899 v900 v901=>K .ret (fillS X43o0e25 [jL w 0,.i n869,.i ((-1:Int)),.i n870,.b b871,.b b872,.b b873,.b b874,.b b875,.b b876,.b b877,.b b878,.b b879,.b b880,.b b881,.b b882,.b b883,.b b884,.b b885,.b b886,.b b887,.b b888,.b b889,.b b890,.b b891,.b b892,.b b893,.b b894,.b b895,.b b896,.v v897,.v v898,.v v899,.v v900,.v v901])) (fun n902 n903 b904 b905 b906 b907 b908 b909 b910 b911 b912 b913 b914 b915 b916 b917 b918 b919 b920 b921 b922 b923 b924 b925 b926 b927 b928 b929 b930 v931 v932 v933 v934=>K .ret (fillS X43o0e26 [jL w 0,.i n902,.i ((-1:Int)),.i n903,.b b904,.b b905,.b b906,.b b907,.b b908,.b b909,.b b910,.b b911,.b b912,.b b913,.b b914,.b b915,.b b916,.b b917,.b b918,.b b919,.b b920,.b b921,.b b922,.b b923,.b b924,.b b925,.b b926,.b b927,.b b928,.b b929,.b b930,.v v931,.v v932,.v v933,.v v934])) (fun n935 n936 b937 b938 b939 b940 b941 b942 b943 b944 b945 b946 b947 b948 b949 b950 b951 b952 b953 b954 b955 b956 b957 b958 b959 b960 b961 b962 b963 b964 v965 v966 v967=>K .ret (fillS X43o0e27 [jL w 0,.i n935,.i ((-1:Int)),.i n936,.b b937,.b b938,.b b939,.b b940,.b b941,.b b942,.b b943,.b b944,.b b945,.b b946,.b b947,.b b948,.b b949,.b b950,.b b951,.b b952,.b b953,.b b954,.b b955,.b b956,.b b957,.b b958,.b b959,.b b960,.b b961,.b b962,.b b963,.b b964,.v v965,.v v966,.v v967])) (fun n968 n969 b970 b971 b972 b973 b974 b975 b976 b977 b978 b979 b980 b981 b982 b983 b984 b985 b986 b987 b988 b989 b990 b991 b992 b993 b994 b995 b996 b997 b998 v999 v1000=>K .ret (fillS X43o0e28 [jL w 0,.i n968,.i ((-1:Int)),.i n969,.b b970,.b b971,.b b972,.b b973,.b b974,.b b975,.b b976,.b b977,.b b978,.b b979,.b b980,.b b981,.b b982,.b b983,.b b984,.b b985,.b b986,.b b987,.b b988,.b b989,.b b990,.b b991,.b b992,.b b993,.b b994,.b b995,.b b996,.b b997,.b b998,.v v999,.v v1000])) (fun n1001 n1002 b1003 b1004 b1005 b1006 b1007 b1008 b1009 b1010 b1011 b1012 b1013 b1014 b1015 b1016 b1017 b1018 b1019 b1020 b1021 b1022 b1023 b1024 b1025 b1026 b1027 b1028 b1029 b1030 b1031 b1032 v1033=>K .ret (fillS X43o0e29 [jL w 0,.i n1001,.i ((-1:Int)),.i n1002,.b b1003,.b b1004,.b b1005,.b b1006,.b b1007,.b b1008,.b b1009,.b b1010,.b b1011,.b b1012,.b b1013,.b b1014,.b b1015,.b b1016,.b b1017,.b b1018,.b b1019,.b b1020,.b b1021,.b b1022,.b b1023,.b b1024,.b b1025,.b b1026,.b b1027,.b b1028,.b b1029,.b b1030,.b b1031,.b b1032,.v v1033])) (fun n1034 n1035 b1036 b1037 b1038 b1039 b1040 b1041 b1042 b1043 b1044 b1045 b1046 b1047 b1048 b1049 b1050 b1051 b1052 b1053 b1054 b1055 b1056 b1057 b1058 b1059 b1060 b1061 b1062 b1063 b1064 b1065 b1066=>K .ret (fillS X43o0e30 [jL w 0,.i n1034,.i ((-1:Int)),.i n1035,.b b1036,.b b1037,.b b1038,.b b1039,.b b1040,.b b1041,.b b1042,.b b1043,.b b1044,.b b1045,.b b1046,.b b1047,.b b1048,.b b1049,.b b1050,.b b1051,.b b1052,.b b1053,.b b1054,.b b1055,.b b1056,.b b1057,.b b1058,.b b1059,.b b1060,.b b1061,.b b1062,.b b1063,.b b1064,.b b1065,.b b1066])) (fun n1067 n1068 b1069 v1070 v1071 v1072 v1073 v1074 v1075 v1076 v1077 v1078 v1079 v1080 v1081 v1082 v1083 v1084 v1085 v1086 v1087 v1088 v1089 v1090 v1091 v1092 v1093 v1094 v1095 v1096 v1097 v1098 v1099=>K (.exit 0) (fillS X43o0e31 [jL w 0,.i n1067,jI w 2,.i n1068,.b b1069,.v v1070,.v v1071,.v v1072,.v v1073,.v v1074,.v v1075,.v v1076,.v v1077,.v v1078,.v v1079,.v v1080,.v v1081,.v v1082,.v v1083,.v v1084,.v v1085,.v v1086,.v v1087,.v v1088,.v v1089,.v v1090,.v v1091,.v v1092,.v v1093,.v v1094,.v v1095,.v v1096,.v v1097,.v v1098,.v v1099])) m (vI w 1) (vI w 3) (vV w 4) (vV w 5) (vV w 6) (vV w 7) (vV w 8) (vV w 9) (vV w 10) (vV w 11) (vV w 12) (vV w 13) (vV w 14) (vV w 15) (vV w 16) (vV w 17) (vV w 18) (vV w 19) (vV w 20) (vV w 21) (vV w 22) (vV w 23) (vV w 24) (vV w 25) (vV w 26) (vV w 27) (vV w 28) (vV w 29) (vV w 30) (vV w 31) (vV w 32) (vV w 33) (vV w 34)
def ST43:LT:=[(0,sumT T43o0 (L43o0 KK))]
def b43o0:=bd c43 0
theorem q43o0:Qp L43o0 C43 ST43 b43o0 1 T43o0:=fun m w K=>by kernel_rfl
theorem o43o0:SumOk C43 KK (sumT T43o0 (L43o0 KK)) (.loop b43o0):=loop_ok T43o0 L43o0 (sums_of (t:=ST43) ⟨fun _ _ h=>absurd h (by decide),trivial⟩) (fun _ _=>rfl) q43o0
theorem r43:Rp (v43 (ta43 tu31 tu33 tu46 tu71 tu72 tu77)) C43 ST43 Tryz.f43 (sig 43) c43 A43:=fun w=>by kernel_rfl
theorem ok43:OkS sig (Gd G dep (dep 43)) 43 th43:=okM (v:=v43) r43 Tryz.func43 rfl ⟨sum_in (c':=.loop b43o0) (by kernel_rfl) (o43o0),trivial⟩ te43 ue43
def C44:=mkC 44
def c44:=gc Tryz.f44
def T44o0:TSt:=⟨[dL,dI,dI,dI,.any,.any,.any,.any,.any,.any,.any,.any,.any,.any,.any],[]⟩
def X44o0e1:TSt:=⟨[dL,dI,dI,dI,dB,dB,.any,.any,.any,.any,.any,.any,.any,.any,.any],[]⟩
def X44o0e2:TSt:=⟨[dL,dI,dI,dI,dB,dB,dB,.any,.any,.any,.any,.any,.any,.any,.any],[]⟩
def X44o0e3:TSt:=⟨[dL,dI,dI,dI,dB,dB,dB,dB,.any,.any,.any,.any,.any,.any,.any],[]⟩
def X44o0e4:TSt:=⟨[dL,dI,dI,dI,dB,dB,dB,dB,dB,.any,.any,.any,.any,.any,.any],[]⟩
def X44o0e5:TSt:=⟨[dL,dI,dI,dI,dB,dB,dB,dB,dB,dB,.any,.any,.any,.any,.any],[]⟩
def X44o0e6:TSt:=⟨[dL,dI,dI,dI,dB,dB,dB,dB,dB,dB,dB,.any,.any,.any,.any],[]⟩
def X44o0e7:TSt:=⟨[dL,dI,dI,dI,dB,dB,dB,dB,dB,dB,dB,dB,.any,.any,.any],[]⟩
def X44o0e8:TSt:=⟨[dL,dI,dI,dI,dB,dB,dB,dB,dB,dB,dB,dB,dB,.any,.any],[]⟩
def X44o0e9:TSt:=⟨[dL,dI,dI,dI,dB,dB,dB,dB,dB,dB,dB,dB,dB,dB,.any],[]⟩
def X44o0e10:TSt:=⟨[dL,dI,dI,dI,dB,dB,dB,dB,dB,dB,dB,dB,dB,dB,dB],[]⟩
def X44o0e11:TSt:=⟨[dL,dI,dI,dI,dB,.any,.any,.any,.any,.any,.any,.any,.any,.any,.any],[]⟩
def L44o0 (m:Nat) (w:List Vr) (K:KT):Rs:=la44o0 tu46 tu71 (vL w 0) (vI w 2) (fun n37 n38 b39 b40 v41 v42 v43 v44 v45 v46 v47 v48 v49=>K .ret (fillS X44o0e1 [jL w 0,.i n37,.i ((-1:Int)),.i n38,.b b39,.b b40,.v v41,.v v42,.v v43,.v v44,.v v45,.v v46,.v v47,.v v48,.v v49])) (fun n50 n51 b52 b53 b54 v55 v56 v57 v58 v59 v60 v61 v62=>K .ret (fillS X44o0e2 [jL w 0,.i n50,.i ((-1:Int)),.i n51,.b b52,.b b53,.b b54,.v v55,.v v56,.v v57,.v v58,.v v59,.v v60,.v v61,.v v62])) (fun n63 n64 b65 b66 b67 b68 v69 v70 v71 v72 v73 v74 v75=>K .ret (fillS X44o0e3 [jL w 0,.i n63,.i ((-1:Int)),.i n64,.b b65,.b b66,.b b67,.b b68,.v v69,.v v70,.v v71,.v v72,.v v73,.v v74,.v v75])) (fun n76 n77 b78 b79 b80 b81 b82 v83 v84 v85 v86 v87 v88=>K .ret (fillS X44o0e4 [jL w 0,.i n76,.i ((-1:Int)),.i n77,.b b78,.b b79,.b b80,.b b81,.b b82,.v v83,.v v84,.v v85,.v v86,.v v87,.v v88])) (fun n89 n90 b91 b92 b93 b94 b95 b96 v97 v98 v99 v100 v101=>K .ret (fillS X44o0e5 [jL w 0,.i n89,.i ((-1:Int)),.i n90,.b b91,.b b92,.b b93,.b b94,.b b95,.b b96,.v v97,.v v98,.v v99,.v v100,.v v101])) (fun n102 n103 b104 b105 b106 b107 b108 b109 b110 v111 v112 v113 v114=>K .ret (fillS X44o0e6 [jL w 0,.i n102,.i ((-1:Int)),.i n103,.b b104,.b b105,.b b106,.b b107,.b b108,.b b109,.b b110,.v v111,.v v112,.v v113,.v v114])) (fun n115 n116 b117 b118 b119 b120 b121 b122 b123 b124 v125 v126 v127=>K .ret (fillS X44o0e7 [jL w 0,.i n115,.i ((-1:Int)),.i n116,.b b117,.b b118,.b b119,.b b120,.b b121,.b b122,.b b123,.b b124,.v v125,.v v126,.v v127])) (fun n128 n129 b130 b131 b132 b133 b134 b135 b136 b137 b138 v139 v140=>K .ret (fillS X44o0e8 [jL w 0,.i n128,.i ((-1:Int)),.i n129,.b b130,.b b131,.b b132,.b b133,.b b134,.b b135,.b b136,.b b137,.b b138,.v v139,.v v140])) (fun n141 n142 b143 b144 b145 b146 b147 b148 b149 b150 b151 b152 v153=>K .ret (fillS X44o0e9 [jL w 0,.i n141,.i ((-1:Int)),.i n142,.b b143,.b b144,.b b145,.b b146,.b b147,.b b148,.b b149,.b b150,.b b151,.b b152,.v v153])) (fun n154 n155 b156 b157 b158 b159 b160 b161 b162 b163 b164 b165 b166=>K .ret (fillS X44o0e10 [jL w 0,.i n154,.i ((-1:Int)),.i n155,.b b156,.b b157,.b b158,.b b159,.b b160,.b b161,.b b162,.b b163,.b b164,.b b165,.b b166])) (fun n167 n168 b169 v170 v171 v172 v173 v174 v175 v176 v177 v178 v179=>K (.exit 0) (fillS X44o0e11 [jL w 0,.i n167,jI w 2,.i n168,.b b169,.v v170,.v v171,.v v172,.v v173,.v v174,.v v175,.v v176,.v v177,.v v178,.v v179])) m (vI w 1) (vI w 3) (vV w 4) (vV w 5) (vV w 6) (vV w 7) (vV w 8) (vV w 9) (vV w 10) (vV w 11) (vV w 12) (vV w 13) (vV w 14)
def ST44:LT:=[(0,sumT T44o0 (L44o0 KK))]
def b44o0:=bd c44 0
theorem q44o0:Qp L44o0 C44 ST44 b44o0 1 T44o0:=fun m w K=>by kernel_rfl
theorem o44o0:SumOk C44 KK (sumT T44o0 (L44o0 KK)) (.loop b44o0):=loop_ok T44o0 L44o0 (sums_of (t:=ST44) ⟨fun _ _ h=>absurd h (by decide),trivial⟩) (fun _ _=>rfl) q44o0
theorem r44:Rp (v44 (ta44 tu46 tu71)) C44 ST44 Tryz.f44 (sig 44) c44 A44:=fun w=>by kernel_rfl
theorem ok44:OkS sig (Gd G dep (dep 44)) 44 th44:=okM (v:=v44) r44 Tryz.func44 rfl ⟨sum_in (c':=.loop b44o0) (by kernel_rfl) (o44o0),trivial⟩ te44 ue44
def C45:=mkC 45
def c45:=gc Tryz.f45
def T45o0:TSt:=⟨[dL,dI,dI,dI,.any,.any,.any,.any,.any,.any,.any],[]⟩
def X45o0e1:TSt:=⟨[dL,dI,dI,dI,dB,dB,.any,.any,.any,.any,.any],[]⟩
def X45o0e2:TSt:=⟨[dL,dI,dI,dI,dB,dB,dB,.any,.any,.any,.any],[]⟩
def X45o0e3:TSt:=⟨[dL,dI,dI,dI,dB,dB,dB,dB,.any,.any,.any],[]⟩
def X45o0e4:TSt:=⟨[dL,dI,dI,dI,dB,dB,dB,dB,dB,.any,.any],[]⟩
def X45o0e5:TSt:=⟨[dL,dI,dI,dI,dB,dB,dB,dB,dB,dB,.any],[]⟩
def X45o0e6:TSt:=⟨[dL,dI,dI,dI,dB,dB,dB,dB,dB,dB,dB],[]⟩
def X45o0e7:TSt:=⟨[dL,dI,dI,dI,dB,.any,.any,.any,.any,.any,.any],[]⟩
def L45o0 (m:Nat) (w:List Vr) (K:KT):Rs:=la45o0 tu71 (vL w 0) (vI w 2) (fun n29 n30 b31 b32 v33 v34 v35 v36 v37=>K .ret (fillS X45o0e1 [jL w 0,.i n29,.i ((-1:Int)),.i n30,.b b31,.b b32,.v v33,.v v34,.v v35,.v v36,.v v37])) (fun n38 n39 b40 b41 b42 v43 v44 v45 v46=>K .ret (fillS X45o0e2 [jL w 0,.i n38,.i ((-1:Int)),.i n39,.b b40,.b b41,.b b42,.v v43,.v v44,.v v45,.v v46])) (fun n47 n48 b49 b50 b51 b52 v53 v54 v55=>K .ret (fillS X45o0e3 [jL w 0,.i n47,.i ((-1:Int)),.i n48,.b b49,.b b50,.b b51,.b b52,.v v53,.v v54,.v v55])) (fun n56 n57 b58 b59 b60 b61 b62 v63 v64=>K .ret (fillS X45o0e4 [jL w 0,.i n56,.i ((-1:Int)),.i n57,.b b58,.b b59,.b b60,.b b61,.b b62,.v v63,.v v64])) (fun n65 n66 b67 b68 b69 b70 b71 b72 v73=>K .ret (fillS X45o0e5 [jL w 0,.i n65,.i ((-1:Int)),.i n66,.b b67,.b b68,.b b69,.b b70,.b b71,.b b72,.v v73])) (fun n74 n75 b76 b77 b78 b79 b80 b81 b82=>K .ret (fillS X45o0e6 [jL w 0,.i n74,.i ((-1:Int)),.i n75,.b b76,.b b77,.b b78,.b b79,.b b80,.b b81,.b b82])) (fun n83 n84 b85 v86 v87 v88 v89 v90 v91=>K (.exit 0) (fillS X45o0e7 [jL w 0,.i n83,jI w 2,.i n84,.b b85,.v v86,.v v87,.v v88,.v v89,.v v90,.v v91])) m (vI w 1) (vI w 3) (vV w 4) (vV w 5) (vV w 6) (vV w 7) (vV w 8) (vV w 9) (vV w 10)
def ST45:LT:=[(0,sumT T45o0 (L45o0 KK))]
def b45o0:=bd c45 0
theorem q45o0:Qp L45o0 C45 ST45 b45o0 1 T45o0:=fun m w K=>by kernel_rfl
theorem o45o0:SumOk C45 KK (sumT T45o0 (L45o0 KK)) (.loop b45o0):=loop_ok T45o0 L45o0 (sums_of (t:=ST45) ⟨fun _ _ h=>absurd h (by decide),trivial⟩) (fun _ _=>rfl) q45o0
theorem r45:Rp (v45 (ta45 tu71)) C45 ST45 Tryz.f45 (sig 45) c45 A45:=fun w=>by kernel_rfl
theorem ok45:OkS sig (Gd G dep (dep 45)) 45 th45:=okM (v:=v45) r45 Tryz.func45 rfl ⟨sum_in (c':=.loop b45o0) (by kernel_rfl) (o45o0),trivial⟩ te45 ue45
def C14:=mkC 14
def c14:=gc Tryz.f14
def ST14:LT:=[]
theorem r14:Rp (v14 (ta14 tu43 tu44 tu45 tu46)) C14 ST14 Tryz.f14 (sig 14) c14 A14:=fun w=>by kernel_rfl
theorem ok14:OkS sig (Gd G dep (dep 14)) 14 th14:=okM (v:=v14) r14 Tryz.func14 rfl trivial te14 ue14
def C4:=mkC 4
def c4:=gc Tryz.f4
def ST4:LT:=[]
theorem r4:Rp (v4 (ta4 tu10 tu11 tu12 tu13 tu14)) C4 ST4 Tryz.f4 (sig 4) c4 A4:=fun w=>by kernel_rfl
theorem ok4:OkS sig (Gd G dep (dep 4)) 4 th4:=okM (v:=v4) r4 Tryz.func4 rfl trivial te4 ue4
theorem fn_ok:∀f∈[34,15,108,81,109,137,164,138,139,110,82,47,48,54,83,84,49,16,55,120,91,56,17,5,10,18,20,130,129,169,183,170,150,121,92,94,57,127,95,157,128,96,97,58,125,151,184,171,172,152,153,122,98,158,131,99,59,19,6,11,80,38,60,21,191,181,162,134,101,135,102,163,136,103,61,22,23,62,104,63,24,105,64,25,7,35,78,36,79,37,12,71,42,65,106,66,67,68,27,70,29,39,40,41,13,46,72,107,73,74,75,31,77,33,43,44,45,14,4],FnOk Tryz.prog sig f:=fun f h=>fnOk_of (List.all_eq_true.1 (show [34,15,108,81,109,137,164,138,139,110,82,47,48,54,83,84,49,16,55,120,91,56,17,5,10,18,20,130,129,169,183,170,150,121,92,94,57,127,95,157,128,96,97,58,125,151,184,171,172,152,153,122,98,158,131,99,59,19,6,11,80,38,60,21,191,181,162,134,101,135,102,163,136,103,61,22,23,62,104,63,24,105,64,25,7,35,78,36,79,37,12,71,42,65,106,66,67,68,27,70,29,39,40,41,13,46,72,107,73,74,75,31,77,33,43,44,45,14,4].all (fnOkB Tryz.prog sig)=true by kernel_rfl) f h)
theorem ak {f:Nat} {th:List DV→Bool × List DV × List (List D)} (a:FnOk Tryz.prog sig f) (o:OkS sig (Gd G dep (dep f)) f th):∀xs q,opt (th xs)=some q→FnOk Tryz.prog sig f∧evalBody Tryz.prog sig (Gd G dep (dep f)) KK f xs=some q:=fun xs q h=>⟨a,o xs q h⟩
theorem all_ok:AllG (fun f xs q=>FnOk Tryz.prog sig f∧evalBody Tryz.prog sig (Gd G dep (dep f)) KK f xs=some q) gT :=
  ⟨ak (fn_ok 34 (by simp)) ok34,ak (fn_ok 15 (by simp)) ok15,ak (fn_ok 108 (by simp)) ok108,ak (fn_ok 81 (by simp)) ok81,ak (fn_ok 109 (by simp)) ok109,ak (fn_ok 137 (by simp)) ok137,ak (fn_ok 164 (by simp)) ok164,ak (fn_ok 138 (by simp)) ok138,ak (fn_ok 139 (by simp)) ok139,ak (fn_ok 110 (by simp)) ok110,ak (fn_ok 82 (by simp)) ok82,ak (fn_ok 47 (by simp)) ok47,ak (fn_ok 48 (by simp)) ok48,ak (fn_ok 54 (by simp)) ok54,ak (fn_ok 83 (by simp)) ok83,ak (fn_ok 84 (by simp)) ok84,ak (fn_ok 49 (by simp)) ok49,fun xs q h=>(hk50 xs q h).elim,fun xs q h=>(hk51 xs q h).elim,fun xs q h=>(hk52 xs q h).elim,fun xs q h=>(hk53 xs q h).elim,ak (fn_ok 16 (by simp)) ok16,ak (fn_ok 55 (by simp)) ok55,ak (fn_ok 120 (by simp)) ok120,ak (fn_ok 91 (by simp)) ok91,ak (fn_ok 56 (by simp)) ok56,ak (fn_ok 17 (by simp)) ok17,ak (fn_ok 5 (by simp)) ok5,ak (fn_ok 10 (by simp)) ok10,ak (fn_ok 18 (by simp)) ok18,ak (fn_ok 20 (by simp)) ok20,ak (fn_ok 130 (by simp)) ok130,ak (fn_ok 129 (by simp)) ok129,ak (fn_ok 169 (by simp)) ok169,ak (fn_ok 183 (by simp)) ok183,ak (fn_ok 170 (by simp)) ok170,ak (fn_ok 150 (by simp)) ok150,ak (fn_ok 121 (by simp)) ok121,ak (fn_ok 92 (by simp)) ok92,fun xs q h=>(hk93 xs q h).elim,ak (fn_ok 94 (by simp)) ok94,ak (fn_ok 57 (by simp)) ok57,ak (fn_ok 127 (by simp)) ok127,ak (fn_ok 95 (by simp)) ok95,ak (fn_ok 157 (by simp)) ok157,ak (fn_ok 128 (by simp)) ok128,ak (fn_ok 96 (by simp)) ok96,ak (fn_ok 97 (by simp)) ok97,ak (fn_ok 58 (by simp)) ok58,ak (fn_ok 125 (by simp)) ok125,ak (fn_ok 151 (by simp)) ok151,ak (fn_ok 184 (by simp)) ok184,ak (fn_ok 171 (by simp)) ok171,ak (fn_ok 172 (by simp)) ok172,ak (fn_ok 152 (by simp)) ok152,ak (fn_ok 153 (by simp)) ok153,ak (fn_ok 122 (by simp)) ok122,ak (fn_ok 98 (by simp)) ok98,ak (fn_ok 158 (by simp)) ok158,ak (fn_ok 131 (by simp)) ok131,ak (fn_ok 99 (by simp)) ok99,fun xs q h=>(hk100 xs q h).elim,ak (fn_ok 59 (by simp)) ok59,ak (fn_ok 19 (by simp)) ok19,ak (fn_ok 6 (by simp)) ok6,ak (fn_ok 11 (by simp)) ok11,ak (fn_ok 80 (by simp)) ok80,ak (fn_ok 38 (by simp)) ok38,ak (fn_ok 60 (by simp)) ok60,ak (fn_ok 21 (by simp)) ok21,ak (fn_ok 191 (by simp)) ok191,ak (fn_ok 181 (by simp)) ok181,ak (fn_ok 162 (by simp)) ok162,ak (fn_ok 134 (by simp)) ok134,ak (fn_ok 101 (by simp)) ok101,ak (fn_ok 135 (by simp)) ok135,ak (fn_ok 102 (by simp)) ok102,ak (fn_ok 163 (by simp)) ok163,ak (fn_ok 136 (by simp)) ok136,ak (fn_ok 103 (by simp)) ok103,ak (fn_ok 61 (by simp)) ok61,ak (fn_ok 22 (by simp)) ok22,ak (fn_ok 23 (by simp)) ok23,ak (fn_ok 62 (by simp)) ok62,ak (fn_ok 104 (by simp)) ok104,ak (fn_ok 63 (by simp)) ok63,ak (fn_ok 24 (by simp)) ok24,ak (fn_ok 105 (by simp)) ok105,ak (fn_ok 64 (by simp)) ok64,ak (fn_ok 25 (by simp)) ok25,ak (fn_ok 7 (by simp)) ok7,ak (fn_ok 35 (by simp)) ok35,ak (fn_ok 78 (by simp)) ok78,ak (fn_ok 36 (by simp)) ok36,ak (fn_ok 79 (by simp)) ok79,ak (fn_ok 37 (by simp)) ok37,ak (fn_ok 12 (by simp)) ok12,ak (fn_ok 71 (by simp)) ok71,ak (fn_ok 42 (by simp)) ok42,ak (fn_ok 65 (by simp)) ok65,ak (fn_ok 106 (by simp)) ok106,ak (fn_ok 66 (by simp)) ok66,ak (fn_ok 67 (by simp)) ok67,ak (fn_ok 68 (by simp)) ok68,ak (fn_ok 27 (by simp)) ok27,ak (fn_ok 70 (by simp)) ok70,ak (fn_ok 29 (by simp)) ok29,ak (fn_ok 39 (by simp)) ok39,ak (fn_ok 40 (by simp)) ok40,ak (fn_ok 41 (by simp)) ok41,ak (fn_ok 13 (by simp)) ok13,ak (fn_ok 46 (by simp)) ok46,ak (fn_ok 72 (by simp)) ok72,ak (fn_ok 107 (by simp)) ok107,ak (fn_ok 73 (by simp)) ok73,ak (fn_ok 74 (by simp)) ok74,ak (fn_ok 75 (by simp)) ok75,ak (fn_ok 31 (by simp)) ok31,ak (fn_ok 77 (by simp)) ok77,ak (fn_ok 33 (by simp)) ok33,ak (fn_ok 43 (by simp)) ok43,ak (fn_ok 44 (by simp)) ok44,ak (fn_ok 45 (by simp)) ok45,ak (fn_ok 14 (by simp)) ok14,ak (fn_ok 4 (by simp)) ok4,trivial⟩
theorem G_ok (f:Nat):SpecOk Tryz.prog (sig f) (fun xs=>opt (G f xs)) f:=G_spec (by kernel_rfl) (allG_of all_ok) f
end
end Go.Den.L4
