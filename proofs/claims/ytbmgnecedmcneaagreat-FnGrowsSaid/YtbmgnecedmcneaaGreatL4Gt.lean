/- The functions' table, and that each is what its twin says. Printed by tw.py. -/
import Derived.Test.YtbmgnecedmcneaaGreatL4Tw
import Derived.Test.YtbmgnecedmcneaaGreatProg
import Derived.KernelRfl
set_option linter.unusedVariables false
namespace Go.Den.L4
open Go Go.Proofs
noncomputable section
set_option maxRecDepth 100000
def U {α:Type} (a:α):α:=Classical.choose (⟨a,rfl⟩:∃f,f=a)
theorem U_eq {α:Type} (a:α):U a=a:=Classical.choose_spec (⟨a,rfl⟩:∃f,f=a)
abbrev dI:TV:=.d (.i .i64)
abbrev dB:TV:=.d .b
abbrev dS:TV:=.d .s
abbrev dL:TV:=.d .l
def bx0:TB:=.box [.bx 0 0 (.l),dI,dI]
def bx1:TB:=.box [dI,dI,dI,dI,dI,dI,dI,dB,.nils,dS]
def bx2:TB:=.box [dI,dI,dI,dI,dI,dI,dI,dB,.own 24585,dS]
def bx3:TB:=.box [dI,dI,dI,dI,dI,dI,dI,dB,dL,dS]
def bx4:TB:=.box [dI,dI,dI,dI,dI,dI,dI,dI,.nils,dI,.nils,.nils,.nils]
def bx5:TB:=.box [dI,dI,dI,dI,dI,dI,dI,dI,.own 12297,dI,.own 12299,.own 12300,.own 12301]
def bx6:TB:=.box [dI,dI,dI,dI,dI,dI,dI,dI,.own 20489,dI,.own 20491,.own 20492,.own 20493]
def bx7:TB:=.box [dI,dI,dI,dI,dI,dI,dI,dI,.own 28681,dI,.own 28683,.own 28684,.own 28685]
def bx8:TB:=.box [dI,dI,dI,dI,dI,dI,dI,dI,.own 32777,dI,.own 32779,.own 32780,.own 32781]
def bx9:TB:=.box [dI,dI,dI,dI,dI,dI,dI,dI,.own 4105,dI,.own 2368,.own 4108,.own 4109]
def bx10:TB:=.box [dI,dI,dI,dI,dI,dI,dI,dI,.own 4105,dI,.own 4107,.own 4108,.own 4109]
def bx11:TB:=.box [dI,dI,dI,dI,dI,dI,dI,dI,.own 4105,dI,.own 576,.own 704,.own 832]
def bx12:TB:=.box [dI,dI,dI,dI,dI,dI,dI,dI,.own 8201,dI,.own 8203,.own 8204,.own 8205]
def bx13:TB:=.box [dI,dI,dI,dI,dI,dI,dI,dI,.own 9,dI,.own 11,.own 12,.own 13]
def bx14:TB:=.box [dI,dI,dI,dI,dI,dI,dI,dI,dL,dI,dL,dL,dL]
def bx15:TB:=.box [dI,dI,dI,dI,dS,dL]
def ag0:TV:=.agg [dI,dI,dI,dI,dI,dI,dI,dB,dL,dS]
def ag1:TV:=.agg [dI,dI,dI,dI,dI,dI,dI,dI,.own 4105,dI,.own 4107,.own 4108,.own 4109]
def ag2:TV:=.agg [dI,dI,dI,dI,dI,dI,dI,dI,.own 8201,dI,.own 8203,.own 8204,.own 8205]
def ag3:TV:=.agg [dI,dI,dI,dI,dI,dI,dI,dI,.undef,dI,.undef,.undef,.undef]
def ag4:TV:=.agg [dI,dI,dI,dI,dI,dI,dI,dI,dL,dI,dL,dL,dL]
def ag5:TV:=.agg [dI,dI,dI,dI,dS,dL]
def bn0:Nat × TB:=(128,bx12)
def bn1:Nat × TB:=(128,bx4)
def bn2:Nat × TB:=(192,bx3)
def bn3:Nat × TB:=(256,bx4)
def bn4:Nat × TB:=(64,bx14)
abbrev KT:=Cont (List DV × List (List D))
def dr (a n:Nat):List (Nat × Nat × List Nat):=(List.range n).map fun i=>(a+i,0,[])
abbrev LT:=List (Nat × (St→KT→Rs))
def Qp (L:Nat→List Vr→KT→Rs) (C:Ctx) (S:LT) (b:Code) (n:Nat) (T:TSt):Prop:=∀m w K,L (m+1) w K=denK C (lkS S) b n (fillS T w) (loopK C T (L m) K)
abbrev jB (w:List Vr) (n:Nat):Vr:=.b (vB w n)
abbrev jI (w:List Vr) (n:Nat):Vr:=.i (vI w n)
abbrev jS (w:List Vr) (n:Nat):Vr:=.s (vS w n)
abbrev jL (w:List Vr) (n:Nat):Vr:=.l (vL w n)
abbrev jN (w:List Vr) (n:Nat):Vr:=.n (vN w n)
abbrev jV (w:List Vr) (n:Nat):Vr:=.v (vV w n)
def OkS (sig:Nat→Sig) (g:Nat→List DV→Bool × List DV × List (List D)) (f:Nat) (th:List DV→Bool × List DV × List (List D)):Prop:=∀xs q,opt (th xs)=some q→evalBody Tryz.prog sig g KK f xs=some q
def tu5:=U t5
theorem ue5:tu5=t5:=U_eq _
theorem te5:t5=t5:=rfl
def v5 (f:Y5) (w:List Vr):Rs:=f (vL w 0)
def th5:=fun xs=>gOf zr5 zo5 (argsT A5 (v5 tu5) xs)
def tu14:=U t14
theorem ue14:tu14=t14:=U_eq _
theorem te14:t14=t14:=rfl
def v14 (f:Y14) (w:List Vr):Rs:=f (vL w 0)
def th14:=fun xs=>gOf zr14 zo14 (argsT A14 (v14 tu14) xs)
def tu55:=U t55
theorem ue55:tu55=t55:=U_eq _
theorem te55:t55=t55:=rfl
def v55 (f:Y55) (w:List Vr):Rs:=f (vL w 0) (vI w 1) (vI w 2)
def th55:=fun xs=>gOf zr55 zo55 (argsT A55 (v55 tu55) xs)
def tu29:=U t29
theorem ue29:tu29=t29:=U_eq _
theorem te29:ta29 tu55=t29:=by rw [ue55];rfl
def v29 (f:Y29) (w:List Vr):Rs:=f (vL w 0) (vI w 1) (vI w 2) (vI w 3)
def th29:=fun xs=>gOf zr29 zo29 (argsT A29 (v29 tu29) xs)
def tu28:=U t28
theorem ue28:tu28=t28:=U_eq _
theorem te28:ta28 tu29 tu55=t28:=by rw [ue29,ue55];rfl
def v28 (f:Y28) (w:List Vr):Rs:=f (vL w 0) (vI w 1) (vI w 2) (vI w 3)
def th28:=fun xs=>gOf zr28 zo28 (argsT A28 (v28 tu28) xs)
def tu17:=U t17
theorem ue17:tu17=t17:=U_eq _
theorem te17:ta17 tu29=t17:=by rw [ue29];rfl
def v17 (f:Y17) (w:List Vr):Rs:=f (vL w 0) (vI w 1) (vI w 2) (vI w 3)
def th17:=fun xs=>gOf zr17 zo17 (argsT A17 (v17 tu17) xs)
def tu16:=U t16
theorem ue16:tu16=t16:=U_eq _
theorem te16:t16=t16:=rfl
def v16 (f:Y16) (w:List Vr):Rs:=f (vL w 0) (vI w 1)
def th16:=fun xs=>gOf zr16 zo16 (argsT A16 (v16 tu16) xs)
def tu38:=U t38
theorem ue38:tu38=t38:=U_eq _
theorem te38:ta38 tu17 tu28 tu29=t38:=by rw [ue17,ue28,ue29];rfl
def v38 (f:Y38) (w:List Vr):Rs:=f (vL w 0) (vI w 1) (vI w 2) (vI w 3) (vI w 4) (vI w 5)
def th38:=fun xs=>gOf zr38 zo38 (argsT A38 (v38 tu38) xs)
def tu62:=U t62
theorem ue62:tu62=t62:=U_eq _
theorem te62:ta62 tu17 tu28 tu29 tu38=t62:=by rw [ue17,ue28,ue29,ue38];rfl
def v62 (f:Y62) (w:List Vr):Rs:=f (vL w 0) (vI w 1) (vI w 2)
def th62:=fun xs=>gOf zr62 zo62 (argsT A62 (v62 tu62) xs)
def tu35:=U t35
theorem ue35:tu35=t35:=U_eq _
theorem te35:ta35 tu29=t35:=by rw [ue29];rfl
def v35 (f:Y35) (w:List Vr):Rs:=f (vL w 0) (vI w 1) (vI w 2) (vL w 3)
def th35:=fun xs=>gOf zr35 zo35 (argsT A35 (v35 tu35) xs)
def tu20:=U t20
theorem ue20:tu20=t20:=U_eq _
theorem te20:t20=t20:=rfl
def v20 (f:Y20) (w:List Vr):Rs:=f (vI w 0) (vI w 1) (vI w 2)
def th20:=fun xs=>gOf zr20 zo20 (argsT A20 (v20 tu20) xs)
def tu39:=U t39
theorem ue39:tu39=t39:=U_eq _
theorem te39:ta39 tu20=t39:=by rw [ue20];rfl
def v39 (f:Y39) (w:List Vr):Rs:=f (vI w 0) (vI w 1)
def th39:=fun xs=>gOf zr39 zo39 (argsT A39 (v39 tu39) xs)
def tu21:=U t21
theorem ue21:tu21=t21:=U_eq _
theorem te21:ta21 tu20 tu39=t21:=by rw [ue20,ue39];rfl
def v21 (f:Y21) (w:List Vr):Rs:=f (vI w 0) (vI w 1) (vI w 2) (vI w 3) (vS w 4) (vL w 5)
def th21:=fun xs=>gOf zr21 zo21 (argsT A21 (v21 tu21) xs)
def tu22:=U t22
theorem ue22:tu22=t22:=U_eq _
theorem te22:t22=t22:=rfl
def v22 (f:Y22) (w:List Vr):Rs:=f (vI w 0) (vI w 1) (vI w 2) (vI w 3) (vI w 4) (vI w 5) (vI w 6) (vI w 7) (vL w 8) (vI w 9) (vL w 10) (vL w 11) (vL w 12) (vS w 13)
def th22:=fun xs=>gOf zr22 zo22 (argsT A22 (v22 tu22) xs)
def tu23:=U t23
theorem ue23:tu23=t23:=U_eq _
theorem te23:t23=t23:=rfl
def v23 (f:Y23) (w:List Vr):Rs:=f (vI w 0) (vI w 1) (vI w 2) (vI w 3) (vI w 4) (vI w 5) (vI w 6) (vI w 7) (vL w 8) (vI w 9) (vL w 10) (vL w 11) (vL w 12)
def th23:=fun xs=>gOf zr23 zo23 (argsT A23 (v23 tu23) xs)
def tu24:=U t24
theorem ue24:tu24=t24:=U_eq _
theorem te24:t24=t24:=rfl
def v24 (f:Y24) (w:List Vr):Rs:=f (vL w 0) (vI w 1)
def th24:=fun xs=>gOf zr24 zo24 (argsT A24 (v24 tu24) xs)
def tu7:=U t7
theorem ue7:tu7=t7:=U_eq _
theorem te7:ta7 tu20 tu21 tu22 tu23 tu24=t7:=by rw [ue20,ue21,ue22,ue23,ue24];rfl
def v7 (f:Y7) (w:List Vr):Rs:=f (vI w 0) (vI w 1) (vI w 2) (vI w 3) (vI w 4) (vI w 5) (vI w 6) (vI w 7) (vL w 8) (vI w 9) (vL w 10) (vL w 11) (vL w 12)
def th7:=fun xs=>gOf zr7 zo7 (argsT A7 (v7 tu7) xs)
def tu63:=U t63
theorem ue63:tu63=t63:=U_eq _
theorem te63:ta63 tu7 tu21=t63:=by rw [ue7,ue21];rfl
def v63 (f:Y63) (w:List Vr):Rs:=f (vI w 0) (vI w 1) (vI w 2) (vI w 3) (vI w 4) (vI w 5) (vS w 6) (vL w 7)
def th63:=fun xs=>gOf zr63 zo63 (argsT A63 (v63 tu63) xs)
def tu31:=U t31
theorem ue31:tu31=t31:=U_eq _
theorem te31:t31=t31:=rfl
def v31 (f:Y31) (w:List Vr):Rs:=f (vI w 0) (vI w 1) (vI w 2) (vI w 3) (vI w 4) (vI w 5) (vI w 6) (vI w 7) (vL w 8) (vI w 9) (vL w 10) (vL w 11) (vL w 12)
def th31:=fun xs=>gOf zr31 zo31 (argsT A31 (v31 tu31) xs)
def tu37:=U t37
theorem ue37:tu37=t37:=U_eq _
theorem te37:t37=t37:=rfl
def v37 (f:Y37) (w:List Vr):Rs:=f (vI w 0) (vI w 1) (vI w 2) (vI w 3) (vI w 4) (vI w 5) (vI w 6) (vI w 7) (vL w 8) (vI w 9) (vL w 10) (vL w 11) (vL w 12) (vI w 13)
def th37:=fun xs=>gOf zr37 zo37 (argsT A37 (v37 tu37) xs)
def tu60:=U t60
theorem ue60:tu60=t60:=U_eq _
theorem te60:ta60 tu23 tu37=t60:=by rw [ue23,ue37];rfl
def v60 (f:Y60) (w:List Vr):Rs:=f (vI w 0) (vI w 1) (vI w 2) (vI w 3) (vI w 4) (vI w 5) (vI w 6) (vI w 7) (vL w 8) (vI w 9) (vL w 10) (vL w 11) (vL w 12)
def th60:=fun xs=>gOf zr60 zo60 (argsT A60 (v60 tu60) xs)
def tu32:=U t32
theorem ue32:tu32=t32:=U_eq _
theorem te32:ta32 tu23 tu60=t32:=by rw [ue23,ue60];rfl
def v32 (f:Y32) (w:List Vr):Rs:=f (vI w 0) (vI w 1) (vI w 2) (vI w 3) (vI w 4) (vI w 5) (vI w 6) (vI w 7) (vL w 8) (vI w 9) (vL w 10) (vL w 11) (vL w 12) (vS w 13)
def th32:=fun xs=>gOf zr32 zo32 (argsT A32 (v32 tu32) xs)
def tu61:=U t61
theorem ue61:tu61=t61:=U_eq _
theorem te61:ta61 tu23 tu37=t61:=by rw [ue23,ue37];rfl
def v61 (f:Y61) (w:List Vr):Rs:=f (vI w 0) (vI w 1) (vI w 2) (vI w 3) (vI w 4) (vI w 5) (vI w 6) (vI w 7) (vL w 8) (vI w 9) (vL w 10) (vL w 11) (vL w 12) (vI w 13)
def th61:=fun xs=>gOf zr61 zo61 (argsT A61 (v61 tu61) xs)
def tu33:=U t33
theorem ue33:tu33=t33:=U_eq _
theorem te33:ta33 tu61=t33:=by rw [ue61];rfl
def v33 (f:Y33) (w:List Vr):Rs:=f (vI w 0) (vI w 1) (vI w 2) (vI w 3) (vI w 4) (vI w 5) (vI w 6) (vI w 7) (vL w 8) (vI w 9) (vL w 10) (vL w 11) (vL w 12)
def th33:=fun xs=>gOf zr33 zo33 (argsT A33 (v33 tu33) xs)
def tu83:=U t83
theorem ue83:tu83=t83:=U_eq _
theorem te83:ta83 tu23 tu32 tu33=t83:=by rw [ue23,ue32,ue33];rfl
def v83 (f:Y83) (w:List Vr):Rs:=f (vI w 0) (vI w 1) (vI w 2) (vI w 3) (vI w 4) (vI w 5) (vI w 6) (vI w 7) (vL w 8) (vI w 9) (vL w 10) (vL w 11) (vL w 12)
def th83:=fun xs=>gOf zr83 zo83 (argsT A83 (v83 tu83) xs)
def tu76:=U t76
theorem ue76:tu76=t76:=U_eq _
theorem te76:ta76 tu7 tu23 tu31 tu37 tu83=t76:=by rw [ue7,ue23,ue31,ue37,ue83];rfl
def v76 (f:Y76) (w:List Vr):Rs:=f (vI w 0) (vI w 1) (vI w 2) (vI w 3) (vI w 4) (vI w 5) (vI w 6) (vI w 7) (vL w 8) (vI w 9) (vL w 10) (vL w 11) (vL w 12)
def th76:=fun xs=>gOf zr76 zo76 (argsT A76 (v76 tu76) xs)
def tu12:=U t12
theorem ue12:tu12=t12:=U_eq _
theorem te12:ta12 tu7 tu23 tu31 tu32 tu33=t12:=by rw [ue7,ue23,ue31,ue32,ue33];rfl
def v12 (f:Y12) (w:List Vr):Rs:=f (vI w 0) (vI w 1) (vI w 2) (vI w 3) (vI w 4) (vI w 5) (vI w 6) (vI w 7) (vL w 8) (vI w 9) (vL w 10) (vL w 11) (vL w 12) (vS w 13)
def th12:=fun xs=>gOf zr12 zo12 (argsT A12 (v12 tu12) xs)
def tu77:=U t77
theorem ue77:tu77=t77:=U_eq _
theorem te77:ta77 tu7 tu31 tu37=t77:=by rw [ue7,ue31,ue37];rfl
def v77 (f:Y77) (w:List Vr):Rs:=f (vI w 0) (vI w 1) (vI w 2) (vI w 3) (vI w 4) (vI w 5) (vI w 6) (vI w 7) (vL w 8) (vI w 9) (vL w 10) (vL w 11) (vL w 12) (vI w 13)
def th77:=fun xs=>gOf zr77 zo77 (argsT A77 (v77 tu77) xs)
def tu102:=U t102
theorem ue102:tu102=t102:=U_eq _
theorem te102:ta102 tu20=t102:=by rw [ue20];rfl
def v102 (f:Y102) (w:List Vr):Rs:=f (vI w 0)
def th102:=fun xs=>gOf zr102 zo102 (argsT A102 (v102 tu102) xs)
def tu103:=U t103
theorem ue103:tu103=t103:=U_eq _
theorem te103:ta103 tu20=t103:=by rw [ue20];rfl
def v103 (f:Y103) (w:List Vr):Rs:=f (vL w 0) (vI w 1) (vI w 2)
def th103:=fun xs=>gOf zr103 zo103 (argsT A103 (v103 tu103) xs)
def tu112:=U t112
theorem ue112:tu112=t112:=U_eq _
theorem te112:t112=t112:=rfl
def v112 (f:Y112) (w:List Vr):Rs:=f (vL w 0) (vL w 1)
def th112:=fun xs=>gOf zr112 zo112 (argsT A112 (v112 tu112) xs)
def tu104:=U t104
theorem ue104:tu104=t104:=U_eq _
theorem te104:ta104 tu112=t104:=by rw [ue112];rfl
def v104 (f:Y104) (w:List Vr):Rs:=f (vI w 0) (vI w 1) (vI w 2) (vI w 3) (vI w 4) (vI w 5) (vI w 6) (vB w 7) (vL w 8) (vS w 9) (vI w 10) (vI w 11) (vI w 12) (vI w 13) (vI w 14) (vI w 15) (vI w 16) (vB w 17) (vL w 18) (vS w 19)
def th104:=fun xs=>gOf zr104 zo104 (argsT A104 (v104 tu104) xs)
def tu84:=U t84
theorem ue84:tu84=t84:=U_eq _
theorem te84:ta84 tu20 tu39 tu102 tu103 tu104=t84:=by rw [ue20,ue39,ue102,ue103,ue104];rfl
def v84 (f:Y84) (w:List Vr):Rs:=f (vI w 0) (vI w 1) (vI w 2) (vI w 3) (vI w 4) (vI w 5) (vI w 6) (vB w 7) (vL w 8) (vS w 9)
def th84:=fun xs=>gOf zr84 zo84 (argsT A84 (v84 tu84) xs)
def tu85:=U t85
theorem ue85:tu85=t85:=U_eq _
theorem te85:t85=t85:=rfl
def v85 (f:Y85) (w:List Vr):Rs:=f (vI w 0) (vI w 1) (vI w 2) (vI w 3) (vI w 4) (vI w 5) (vI w 6) (vI w 7) (vL w 8) (vI w 9) (vL w 10) (vL w 11) (vL w 12) (vI w 13)
def th85:=fun xs=>gOf zr85 zo85 (argsT A85 (v85 tu85) xs)
def tu86:=U t86
theorem ue86:tu86=t86:=U_eq _
theorem te86:ta86 tu23 tu37=t86:=by rw [ue23,ue37];rfl
def v86 (f:Y86) (w:List Vr):Rs:=f (vI w 0) (vI w 1) (vI w 2) (vI w 3) (vI w 4) (vI w 5) (vI w 6) (vI w 7) (vL w 8) (vI w 9) (vL w 10) (vL w 11) (vL w 12) (vI w 13) (vI w 14) (vI w 15) (vI w 16) (vI w 17) (vI w 18) (vI w 19) (vB w 20) (vL w 21) (vS w 22)
def th86:=fun xs=>gOf zr86 zo86 (argsT A86 (v86 tu86) xs)
def tu87:=U t87
theorem ue87:tu87=t87:=U_eq _
theorem te87:ta87 tu24 tu83=t87:=by rw [ue24,ue83];rfl
def v87 (f:Y87) (w:List Vr):Rs:=f (vI w 0) (vI w 1) (vI w 2) (vI w 3) (vI w 4) (vI w 5) (vI w 6) (vI w 7) (vL w 8) (vI w 9) (vL w 10) (vL w 11) (vL w 12) (vI w 13) (vI w 14) (vI w 15) (vI w 16) (vI w 17) (vI w 18) (vI w 19) (vB w 20) (vL w 21) (vS w 22)
def th87:=fun xs=>gOf zr87 zo87 (argsT A87 (v87 tu87) xs)
def tu105:=U t105
theorem ue105:tu105=t105:=U_eq _
theorem te105:t105=t105:=rfl
def v105 (f:Y105) (w:List Vr):Rs:=f (vI w 0) (vI w 1) (vI w 2) (vI w 3) (vI w 4) (vI w 5) (vI w 6) (vI w 7) (vL w 8) (vI w 9) (vL w 10) (vL w 11) (vL w 12) (vI w 13) (vB w 14) (vI w 15)
def th105:=fun xs=>gOf zr105 zo105 (argsT A105 (v105 tu105) xs)
def tu88:=U t88
theorem ue88:tu88=t88:=U_eq _
theorem te88:ta88 tu23 tu37 tu85 tu105=t88:=by rw [ue23,ue37,ue85,ue105];rfl
def v88 (f:Y88) (w:List Vr):Rs:=f (vI w 0) (vI w 1) (vI w 2) (vI w 3) (vI w 4) (vI w 5) (vI w 6) (vI w 7) (vL w 8) (vI w 9) (vL w 10) (vL w 11) (vL w 12) (vI w 13) (vI w 14) (vI w 15) (vI w 16) (vI w 17) (vI w 18) (vI w 19) (vB w 20) (vL w 21) (vS w 22)
def th88:=fun xs=>gOf zr88 zo88 (argsT A88 (v88 tu88) xs)
def tu89:=U t89
theorem ue89:tu89=t89:=U_eq _
theorem te89:ta89 tu23 tu60 tu61=t89:=by rw [ue23,ue60,ue61];rfl
def v89 (f:Y89) (w:List Vr):Rs:=f (vI w 0) (vI w 1) (vI w 2) (vI w 3) (vI w 4) (vI w 5) (vI w 6) (vI w 7) (vL w 8) (vI w 9) (vL w 10) (vL w 11) (vL w 12) (vI w 13) (vI w 14) (vI w 15) (vI w 16) (vI w 17) (vI w 18) (vI w 19) (vB w 20) (vL w 21) (vS w 22)
def th89:=fun xs=>gOf zr89 zo89 (argsT A89 (v89 tu89) xs)
def tu90:=U t90
theorem ue90:tu90=t90:=U_eq _
theorem te90:ta90 tu23 tu37 tu85 tu105=t90:=by rw [ue23,ue37,ue85,ue105];rfl
def v90 (f:Y90) (w:List Vr):Rs:=f (vI w 0) (vI w 1) (vI w 2) (vI w 3) (vI w 4) (vI w 5) (vI w 6) (vI w 7) (vL w 8) (vI w 9) (vL w 10) (vL w 11) (vL w 12) (vI w 13) (vI w 14) (vI w 15) (vI w 16) (vI w 17) (vI w 18) (vI w 19) (vB w 20) (vL w 21) (vS w 22)
def th90:=fun xs=>gOf zr90 zo90 (argsT A90 (v90 tu90) xs)
def tu78:=U t78
theorem ue78:tu78=t78:=U_eq _
theorem te78:ta78 tu7 tu31 tu84 tu85 tu86 tu87 tu88 tu89 tu90=t78:=by rw [ue7,ue31,ue84,ue85,ue86,ue87,ue88,ue89,ue90];rfl
def v78 (f:Y78) (w:List Vr):Rs:=f (vI w 0) (vI w 1) (vI w 2) (vI w 3) (vI w 4) (vI w 5) (vI w 6) (vI w 7) (vL w 8) (vI w 9) (vL w 10) (vL w 11) (vL w 12) (vI w 13) (vI w 14) (vI w 15) (vI w 16) (vI w 17) (vI w 18) (vI w 19) (vB w 20) (vL w 21) (vS w 22)
def th78:=fun xs=>gOf zr78 zo78 (argsT A78 (v78 tu78) xs)
def tu36:=U t36
theorem ue36:tu36=t36:=U_eq _
theorem te36:ta36 tu17 tu28 tu29 tu38=t36:=by rw [ue17,ue28,ue29,ue38];rfl
def v36 (f:Y36) (w:List Vr):Rs:=f (vL w 0) (vI w 1) (vI w 2) (vI w 3) (vI w 4) (vI w 5)
def th36:=fun xs=>gOf zr36 zo36 (argsT A36 (v36 tu36) xs)
def tu19:=U t19
theorem ue19:tu19=t19:=U_eq _
theorem te19:ta19 tu17 tu23 tu29 tu36 tu37 tu38=t19:=by rw [ue17,ue23,ue29,ue36,ue37,ue38];rfl
def v19 (f:Y19) (w:List Vr):Rs:=f (vL w 0) (vI w 1) (vI w 2) (vI w 3) (vI w 4) (vI w 5) (vI w 6) (vI w 7) (vI w 8) (vI w 9) (vI w 10) (vL w 11) (vI w 12) (vL w 13) (vL w 14) (vL w 15)
def th19:=fun xs=>gOf zr19 zo19 (argsT A19 (v19 tu19) xs)
def tu64:=U t64
theorem ue64:tu64=t64:=U_eq _
theorem te64:ta64 tu12 tu19 tu28 tu29 tu76 tu77 tu78=t64:=by rw [ue12,ue19,ue28,ue29,ue76,ue77,ue78];rfl
def v64 (f:Y64) (w:List Vr):Rs:=f (vL w 0) (vI w 1) (vI w 2) (vI w 3) (vI w 4) (vI w 5) (vI w 6) (vI w 7) (vI w 8) (vI w 9) (vI w 10) (vL w 11) (vI w 12) (vL w 13) (vL w 14) (vL w 15)
def th64:=fun xs=>gOf zr64 zo64 (argsT A64 (v64 tu64) xs)
def tu34:=U t34
theorem ue34:tu34=t34:=U_eq _
theorem te34:ta34 tu29 tu35 tu62 tu63 tu64=t34:=by rw [ue29,ue35,ue62,ue63,ue64];rfl
def v34 (f:Y34) (w:List Vr):Rs:=f (vL w 0) (vI w 1) (vI w 2) (vI w 3)
def th34:=fun xs=>gOf zr34 zo34 (argsT A34 (v34 tu34) xs)
def tu15:=U t15
theorem ue15:tu15=t15:=U_eq _
theorem te15:ta15 tu17 tu29 tu31 tu34 tu35=t15:=by rw [ue17,ue29,ue31,ue34,ue35];rfl
def v15 (f:Y15) (w:List Vr):Rs:=f (vL w 0) (vI w 1) (vI w 2) (vI w 3)
def th15:=fun xs=>gOf zr15 zo15 (argsT A15 (v15 tu15) xs)
def tu10:=U t10
theorem ue10:tu10=t10:=U_eq _
theorem te10:ta10 tu14 tu15 tu16 tu17 tu28 tu29=t10:=by rw [ue14,ue15,ue16,ue17,ue28,ue29];rfl
def v10 (f:Y10) (w:List Vr):Rs:=f (vL w 0)
def th10:=fun xs=>gOf zr10 zo10 (argsT A10 (v10 tu10) xs)
def tu40:=U t40
theorem ue40:tu40=t40:=U_eq _
theorem te40:t40=t40:=rfl
def v40 (f:Y40) (w:List Vr):Rs:=f (vI w 0) (vI w 1) (vI w 2)
def th40:=fun xs=>gOf zr40 zo40 (argsT A40 (v40 tu40) xs)
def tu42:=U t42
theorem ue42:tu42=t42:=U_eq _
theorem te42:t42=t42:=rfl
def v42 (f:Y42) (w:List Vr):Rs:=f (vI w 0) (vI w 1) (vI w 2) (vI w 3) (vI w 4) (vI w 5) (vI w 6) (vI w 7) (vL w 8) (vI w 9) (vL w 10) (vL w 11) (vL w 12) (vS w 13)
def th42:=fun xs=>gOf zr42 zo42 (argsT A42 (v42 tu42) xs)
def tu41:=U t41
theorem ue41:tu41=t41:=U_eq _
theorem te41:ta41 tu40=t41:=by rw [ue40];rfl
def v41 (f:Y41) (w:List Vr):Rs:=f (vI w 0) (vI w 1) (vI w 2) (vI w 3) (vS w 4) (vL w 5)
def th41:=fun xs=>gOf zr41 zo41 (argsT A41 (v41 tu41) xs)
def tu43:=U t43
theorem ue43:tu43=t43:=U_eq _
theorem te43:t43=t43:=rfl
def v43 (f:Y43) (w:List Vr):Rs:=f (vI w 0) (vI w 1) (vI w 2) (vI w 3) (vI w 4) (vI w 5) (vI w 6) (vI w 7) (vL w 8) (vI w 9) (vL w 10) (vL w 11) (vL w 12)
def th43:=fun xs=>gOf zr43 zo43 (argsT A43 (v43 tu43) xs)
def tu79:=U t79
theorem ue79:tu79=t79:=U_eq _
theorem te79:t79=t79:=rfl
def v79 (f:Y79) (w:List Vr):Rs:=f (vL w 0) (vI w 1)
def th79:=fun xs=>gOf zr79 zo79 (argsT A79 (v79 tu79) xs)
def tu65:=U t65
theorem ue65:tu65=t65:=U_eq _
theorem te65:ta65 tu79=t65:=by rw [ue79];rfl
def v65 (f:Y65) (w:List Vr):Rs:=f (vL w 0) (vI w 1)
def th65:=fun xs=>gOf zr65 zo65 (argsT A65 (v65 tu65) xs)
def tu66:=U t66
theorem ue66:tu66=t66:=U_eq _
theorem te66:t66=t66:=rfl
def v66 (f:Y66) (w:List Vr):Rs:=f (vI w 0) (vI w 1) (vI w 2) (vI w 3) (vI w 4) (vI w 5) (vI w 6) (vI w 7) (vL w 8) (vI w 9) (vL w 10) (vL w 11) (vL w 12) (vI w 13)
def th66:=fun xs=>gOf zr66 zo66 (argsT A66 (v66 tu66) xs)
def tu44:=U t44
theorem ue44:tu44=t44:=U_eq _
theorem te44:ta44 tu40 tu65 tu66=t44:=by rw [ue40,ue65,ue66];rfl
def v44 (f:Y44) (w:List Vr):Rs:=f (vI w 0) (vI w 1) (vI w 2) (vI w 3) (vI w 4) (vI w 5) (vI w 6) (vI w 7) (vL w 8) (vI w 9) (vL w 10) (vL w 11) (vL w 12)
def th44:=fun xs=>gOf zr44 zo44 (argsT A44 (v44 tu44) xs)
def tu45:=U t45
theorem ue45:tu45=t45:=U_eq _
theorem te45:ta45 tu43=t45:=by rw [ue43];rfl
def v45 (f:Y45) (w:List Vr):Rs:=f (vI w 0) (vI w 1) (vI w 2) (vI w 3) (vI w 4) (vI w 5) (vI w 6) (vI w 7) (vL w 8) (vI w 9) (vL w 10) (vL w 11) (vL w 12)
def th45:=fun xs=>gOf zr45 zo45 (argsT A45 (v45 tu45) xs)
def tu25:=U t25
theorem ue25:tu25=t25:=U_eq _
theorem te25:ta25 tu40 tu41 tu42 tu43 tu44 tu45=t25:=by rw [ue40,ue41,ue42,ue43,ue44,ue45];rfl
def v25 (f:Y25) (w:List Vr):Rs:=f (vI w 0) (vI w 1) (vI w 2) (vI w 3) (vI w 4) (vI w 5) (vI w 6) (vI w 7) (vL w 8) (vI w 9) (vL w 10) (vL w 11) (vL w 12)
def th25:=fun xs=>gOf zr25 zo25 (argsT A25 (v25 tu25) xs)
def tu46:=U t46
theorem ue46:tu46=t46:=U_eq _
theorem te46:t46=t46:=rfl
def v46 (f:Y46) (w:List Vr):Rs:=f (vL w 0)
def th46:=fun xs=>gOf zr46 zo46 (argsT A46 (v46 tu46) xs)
def tu26:=U t26
theorem ue26:tu26=t26:=U_eq _
theorem te26:ta26 tu46=t26:=by rw [ue46];rfl
def v26 (f:Y26) (w:List Vr):Rs:=f (vI w 0) (vI w 1) (vI w 2) (vI w 3) (vI w 4) (vI w 5) (vI w 6) (vI w 7) (vL w 8) (vI w 9) (vL w 10) (vL w 11) (vL w 12)
def th26:=fun xs=>gOf zr26 zo26 (argsT A26 (v26 tu26) xs)
def tu56:=U t56
theorem ue56:tu56=t56:=U_eq _
theorem te56:ta56 tu43=t56:=by rw [ue43];rfl
def v56 (f:Y56) (w:List Vr):Rs:=f (vI w 0) (vI w 1) (vI w 2) (vI w 3) (vI w 4) (vI w 5) (vI w 6) (vI w 7) (vL w 8) (vI w 9) (vL w 10) (vL w 11) (vL w 12)
def th56:=fun xs=>gOf zr56 zo56 (argsT A56 (v56 tu56) xs)
def tu57:=U t57
theorem ue57:tu57=t57:=U_eq _
theorem te57:ta57 tu43=t57:=by rw [ue43];rfl
def v57 (f:Y57) (w:List Vr):Rs:=f (vI w 0) (vI w 1) (vI w 2) (vI w 3) (vI w 4) (vI w 5) (vI w 6) (vI w 7) (vL w 8) (vI w 9) (vL w 10) (vL w 11) (vL w 12)
def th57:=fun xs=>gOf zr57 zo57 (argsT A57 (v57 tu57) xs)
def tu70:=U t70
theorem ue70:tu70=t70:=U_eq _
theorem te70:t70=t70:=rfl
def v70 (f:Y70) (w:List Vr):Rs:=f (vI w 0) (vI w 1) (vI w 2) (vI w 3) (vI w 4) (vI w 5) (vI w 6) (vI w 7) (vL w 8) (vI w 9) (vL w 10) (vL w 11) (vL w 12) (vI w 13)
def th70:=fun xs=>gOf zr70 zo70 (argsT A70 (v70 tu70) xs)
def tu58:=U t58
theorem ue58:tu58=t58:=U_eq _
theorem te58:ta58 tu43 tu66 tu70=t58:=by rw [ue43,ue66,ue70];rfl
def v58 (f:Y58) (w:List Vr):Rs:=f (vI w 0) (vI w 1) (vI w 2) (vI w 3) (vI w 4) (vI w 5) (vI w 6) (vI w 7) (vL w 8) (vI w 9) (vL w 10) (vL w 11) (vL w 12)
def th58:=fun xs=>gOf zr58 zo58 (argsT A58 (v58 tu58) xs)
def tu75:=U t75
theorem ue75:tu75=t75:=U_eq _
theorem te75:t75=t75:=rfl
def v75 (f:Y75) (w:List Vr):Rs:=f (vI w 0) (vI w 1) (vI w 2) (vI w 3) (vI w 4) (vI w 5) (vI w 6) (vI w 7) (vL w 8) (vI w 9) (vL w 10) (vL w 11) (vL w 12)
def th75:=fun xs=>gOf zr75 zo75 (argsT A75 (v75 tu75) xs)
def tu74:=U t74
theorem ue74:tu74=t74:=U_eq _
theorem te74:ta74 tu70=t74:=by rw [ue70];rfl
def v74 (f:Y74) (w:List Vr):Rs:=f (vI w 0) (vI w 1) (vI w 2) (vI w 3) (vI w 4) (vI w 5) (vI w 6) (vI w 7) (vL w 8) (vI w 9) (vL w 10) (vL w 11) (vL w 12) (vI w 13)
def th74:=fun xs=>gOf zr74 zo74 (argsT A74 (v74 tu74) xs)
def tu59:=U t59
theorem ue59:tu59=t59:=U_eq _
theorem te59:ta59 tu74 tu75=t59:=by rw [ue74,ue75];rfl
def v59 (f:Y59) (w:List Vr):Rs:=f (vI w 0) (vI w 1) (vI w 2) (vI w 3) (vI w 4) (vI w 5) (vI w 6) (vI w 7) (vL w 8) (vI w 9) (vL w 10) (vL w 11) (vL w 12)
def th59:=fun xs=>gOf zr59 zo59 (argsT A59 (v59 tu59) xs)
def tu30:=U t30
theorem ue30:tu30=t30:=U_eq _
theorem te30:ta30 tu43 tu56 tu57 tu58 tu59=t30:=by rw [ue43,ue56,ue57,ue58,ue59];rfl
def v30 (f:Y30) (w:List Vr):Rs:=f (vI w 0) (vI w 1) (vI w 2) (vI w 3) (vI w 4) (vI w 5) (vI w 6) (vI w 7) (vL w 8) (vI w 9) (vL w 10) (vL w 11) (vL w 12) (vS w 13)
def th30:=fun xs=>gOf zr30 zo30 (argsT A30 (v30 tu30) xs)
def tu11:=U t11
theorem ue11:tu11=t11:=U_eq _
theorem te11:ta11 tu25 tu26 tu30=t11:=by rw [ue25,ue26,ue30];rfl
def v11 (f:Y11) (w:List Vr):Rs:=f (vI w 0) (vI w 1) (vI w 2) (vI w 3) (vI w 4) (vI w 5) (vI w 6) (vI w 7) (vL w 8) (vI w 9) (vL w 10) (vL w 11) (vL w 12) (vS w 13)
def th11:=fun xs=>gOf zr11 zo11 (argsT A11 (v11 tu11) xs)
def tu13:=U t13
theorem ue13:tu13=t13:=U_eq _
theorem te13:t13=t13:=rfl
def v13 (f:Y13) (w:List Vr):Rs:=f (vL w 0) (vL w 1)
def th13:=fun xs=>gOf zr13 zo13 (argsT A13 (v13 tu13) xs)
def tu67:=U t67
theorem ue67:tu67=t67:=U_eq _
theorem te67:ta67 tu40=t67:=by rw [ue40];rfl
def v67 (f:Y67) (w:List Vr):Rs:=f (vI w 0) (vI w 1)
def th67:=fun xs=>gOf zr67 zo67 (argsT A67 (v67 tu67) xs)
def tu68:=U t68
theorem ue68:tu68=t68:=U_eq _
theorem te68:ta68 tu40=t68:=by rw [ue40];rfl
def v68 (f:Y68) (w:List Vr):Rs:=f (vI w 0) (vI w 1) (vI w 2) (vI w 3) (vI w 4) (vI w 5) (vI w 6) (vB w 7) (vL w 8) (vS w 9)
def th68:=fun xs=>gOf zr68 zo68 (argsT A68 (v68 tu68) xs)
def tu80:=U t80
theorem ue80:tu80=t80:=U_eq _
theorem te80:t80=t80:=rfl
def v80 (f:Y80) (w:List Vr):Rs:=f (vL w 0) (vL w 1)
def th80:=fun xs=>gOf zr80 zo80 (argsT A80 (v80 tu80) xs)
def tu69:=U t69
theorem ue69:tu69=t69:=U_eq _
theorem te69:ta69 tu80=t69:=by rw [ue80];rfl
def v69 (f:Y69) (w:List Vr):Rs:=f (vI w 0) (vI w 1) (vI w 2) (vI w 3) (vI w 4) (vI w 5) (vI w 6) (vB w 7) (vL w 8) (vS w 9) (vI w 10) (vI w 11) (vI w 12) (vI w 13) (vI w 14) (vI w 15) (vI w 16) (vB w 17) (vL w 18) (vS w 19)
def th69:=fun xs=>gOf zr69 zo69 (argsT A69 (v69 tu69) xs)
def tu47:=U t47
theorem ue47:tu47=t47:=U_eq _
theorem te47:ta47 tu40 tu67 tu68 tu69=t47:=by rw [ue40,ue67,ue68,ue69];rfl
def v47 (f:Y47) (w:List Vr):Rs:=f (vI w 0) (vI w 1) (vI w 2) (vI w 3) (vI w 4) (vI w 5) (vI w 6) (vB w 7) (vL w 8) (vS w 9)
def th47:=fun xs=>gOf zr47 zo47 (argsT A47 (v47 tu47) xs)
def tu48:=U t48
theorem ue48:tu48=t48:=U_eq _
theorem te48:t48=t48:=rfl
def v48 (f:Y48) (w:List Vr):Rs:=f (vI w 0) (vI w 1) (vI w 2) (vI w 3) (vI w 4) (vI w 5) (vI w 6) (vI w 7) (vL w 8) (vI w 9) (vL w 10) (vL w 11) (vL w 12) (vI w 13) (vI w 14) (vI w 15) (vI w 16) (vI w 17) (vI w 18) (vI w 19) (vB w 20) (vL w 21) (vS w 22) (vB w 23) (vI w 24)
def th48:=fun xs=>gOf zr48 zo48 (argsT A48 (v48 tu48) xs)
def tu49:=U t49
theorem ue49:tu49=t49:=U_eq _
theorem te49:t49=t49:=rfl
def v49 (f:Y49) (w:List Vr):Rs:=f (vI w 0) (vI w 1) (vI w 2) (vI w 3) (vI w 4) (vI w 5) (vI w 6) (vI w 7) (vL w 8) (vI w 9) (vL w 10) (vL w 11) (vL w 12) (vI w 13)
def th49:=fun xs=>gOf zr49 zo49 (argsT A49 (v49 tu49) xs)
def tu50:=U t50
theorem ue50:tu50=t50:=U_eq _
theorem te50:t50=t50:=rfl
def v50 (f:Y50) (w:List Vr):Rs:=f (vI w 0) (vI w 1) (vI w 2) (vI w 3) (vI w 4) (vI w 5) (vI w 6) (vI w 7) (vL w 8) (vI w 9) (vL w 10) (vL w 11) (vL w 12) (vI w 13) (vI w 14) (vI w 15) (vI w 16) (vI w 17) (vI w 18) (vI w 19) (vB w 20) (vL w 21) (vS w 22)
def th50:=fun xs=>gOf zr50 zo50 (argsT A50 (v50 tu50) xs)
def tu51:=U t51
theorem ue51:tu51=t51:=U_eq _
theorem te51:t51=t51:=rfl
def v51 (f:Y51) (w:List Vr):Rs:=f (vI w 0) (vI w 1) (vI w 2) (vI w 3) (vI w 4) (vI w 5) (vI w 6) (vI w 7) (vL w 8) (vI w 9) (vL w 10) (vL w 11) (vL w 12) (vI w 13) (vI w 14) (vI w 15) (vI w 16) (vI w 17) (vI w 18) (vI w 19) (vB w 20) (vL w 21) (vS w 22)
def th51:=fun xs=>gOf zr51 zo51 (argsT A51 (v51 tu51) xs)
def tu52:=U t52
theorem ue52:tu52=t52:=U_eq _
theorem te52:t52=t52:=rfl
def v52 (f:Y52) (w:List Vr):Rs:=f (vI w 0) (vI w 1) (vI w 2) (vI w 3) (vI w 4) (vI w 5) (vI w 6) (vI w 7) (vL w 8) (vI w 9) (vL w 10) (vL w 11) (vL w 12) (vI w 13) (vI w 14) (vI w 15) (vI w 16) (vI w 17) (vI w 18) (vI w 19) (vB w 20) (vL w 21) (vS w 22)
def th52:=fun xs=>gOf zr52 zo52 (argsT A52 (v52 tu52) xs)
def tu53:=U t53
theorem ue53:tu53=t53:=U_eq _
theorem te53:ta53 tu43 tu58 tu74=t53:=by rw [ue43,ue58,ue74];rfl
def v53 (f:Y53) (w:List Vr):Rs:=f (vI w 0) (vI w 1) (vI w 2) (vI w 3) (vI w 4) (vI w 5) (vI w 6) (vI w 7) (vL w 8) (vI w 9) (vL w 10) (vL w 11) (vL w 12) (vI w 13) (vI w 14) (vI w 15) (vI w 16) (vI w 17) (vI w 18) (vI w 19) (vB w 20) (vL w 21) (vS w 22)
def th53:=fun xs=>gOf zr53 zo53 (argsT A53 (v53 tu53) xs)
def tu54:=U t54
theorem ue54:tu54=t54:=U_eq _
theorem te54:t54=t54:=rfl
def v54 (f:Y54) (w:List Vr):Rs:=f (vI w 0) (vI w 1) (vI w 2) (vI w 3) (vI w 4) (vI w 5) (vI w 6) (vI w 7) (vL w 8) (vI w 9) (vL w 10) (vL w 11) (vL w 12) (vI w 13) (vI w 14) (vI w 15) (vI w 16) (vI w 17) (vI w 18) (vI w 19) (vB w 20) (vL w 21) (vS w 22)
def th54:=fun xs=>gOf zr54 zo54 (argsT A54 (v54 tu54) xs)
def tu27:=U t27
theorem ue27:tu27=t27:=U_eq _
theorem te27:ta27 tu47 tu48 tu49 tu50 tu51 tu52 tu53 tu54=t27:=by rw [ue47,ue48,ue49,ue50,ue51,ue52,ue53,ue54];rfl
def v27 (f:Y27) (w:List Vr):Rs:=f (vI w 0) (vI w 1) (vI w 2) (vI w 3) (vI w 4) (vI w 5) (vI w 6) (vI w 7) (vL w 8) (vI w 9) (vL w 10) (vL w 11) (vL w 12) (vI w 13) (vI w 14) (vI w 15) (vI w 16) (vI w 17) (vI w 18) (vI w 19) (vB w 20) (vL w 21) (vS w 22)
def th27:=fun xs=>gOf zr27 zo27 (argsT A27 (v27 tu27) xs)
def tu9:=U t9
theorem ue9:tu9=t9:=U_eq _
theorem te9:ta9 tu25 tu26 tu27=t9:=by rw [ue25,ue26,ue27];rfl
def v9 (f:Y9) (w:List Vr):Rs:=f (vI w 0) (vI w 1) (vI w 2) (vI w 3) (vI w 4) (vI w 5) (vI w 6) (vI w 7) (vL w 8) (vI w 9) (vL w 10) (vL w 11) (vL w 12) (vI w 13) (vI w 14) (vI w 15) (vI w 16) (vI w 17) (vI w 18) (vI w 19) (vB w 20) (vL w 21) (vS w 22)
def th9:=fun xs=>gOf zr9 zo9 (argsT A9 (v9 tu9) xs)
def tu4:=U t4
theorem ue4:tu4=t4:=U_eq _
theorem te4:ta4 tu5 tu9 tu10 tu11 tu12 tu13=t4:=by rw [ue5,ue9,ue10,ue11,ue12,ue13];rfl
def v4 (f:Y4) (w:List Vr):Rs:=f (vL w 0)
def th4:=fun xs=>gOf zr4 zo4 (argsT A4 (v4 tu4) xs)
def sg5:Sig:=⟨[.bor],.sc [.one (.b false)],[0,2],[]⟩
def sg14:Sig:=⟨[.bor],.nptr [none,none,none],[0,2,3,4,15],[]⟩
def sg55:Sig:=⟨[.ptr [none,none,none]],.sc [.one (.i .i64 0)],[0,2,3,34],[(2,dr 0 13),(3,dr 0 10),(4,dr 0 14++[(14,1,[])])]⟩
def sg29:Sig:=⟨[.ptr [none,none,none],.bor],.sc [.one (.i .i64 0)],[0,1,4,5,6,7,8,10,12],[]⟩
def sg28:Sig:=⟨[.ptr [none,none,none],.bor],.sc [.one (.s ⟨#[]⟩)],[0,1,4,5,6,7,8,17,23,27],[]⟩
def sg17:Sig:=⟨[.ptr [none,none,none],.bor],.sc [.one (.b false)],[0,1,4],[]⟩
def sg16:Sig:=⟨[.bor,.bor],.sc [.one (.i .i64 0)],[0,1,4,5,12],[]⟩
def sg38:Sig:=⟨[.ptr [none,none,none],.bor,.bor,.bor],.fresh [[some (38,2)]],[0,1,2,3,8,9,10,17,30,35],[]⟩
def sg62:Sig:=⟨[.ptr [none,none,none]],.fresh [[none,none,none,none,none,some (38,2)]],[0,2,3,4,17,44,60,68],[(3,[(0,0,[])]++dr 3 3++[(8,0,[]),(1,1,[3,4,5,8]),(2,0,[]),(6,1,[8,2]),(7,0,[]),(9,1,[2,7]),(10,0,[]),(11,0,[]),(12,1,[])]),(6,dr 0 5++[(5,1,[0,1,2,3])]++dr 6 3++[(9,1,[])])]⟩
def sg35:Sig:=⟨[.ptr [none,none,none],.bor],.sc [.one (.i .i64 0)],[0,1,4],[]⟩
def sg20:Sig:=⟨[.bor,.bor,.bor],.sc [.one (.b false)],[0,1,2,6],[]⟩
def sg39:Sig:=⟨[.bor,.bor],.sc [.one (.b false)],[0,1,4,6],[]⟩
def sg21:Sig:=⟨[.bor],.sc [.one (.b false)],[0,1,2,3,4,5,68,76,105],[]⟩
def sg22:Sig:=⟨[.bor,.bor],.fresh [[none,none,none,none,none,some (38,2)]],[0,1,2,4,5,17],[(1,[(4,2,[]),(9,2,[])]++dr 0 4++[(5,0,[]),(6,0,[]),(7,1,[0,1,2,3]),(8,0,[]),(10,1,[])])]⟩
def sg23:Sig:=⟨[.bor],.sc [.one (.i .i64 0)],[0,1,2],[]⟩
def sg24:Sig:=⟨[.bor,.bor],.sc [.one (.b false)],[0,1,4,5,9,17],[]⟩
def sg7:Sig:=⟨[.bor],.sc [.one (.b false)],[0,1,2,3,4,50,52,53,86,92,122,166,217,221,253],[(1,dr 0 25++[(25,1,[])]++dr 26 20),(10,dr 0 28),(14,dr 0 50),(19,dr 0 30)]⟩
def sg63:Sig:=⟨[.bor,.bor,.bor],.fresh [[none,none,none,none,none,none,none,none,some (38,2),none,some (3,1),some (3,1),some (3,1)],[none]],[0,1,2,5,6,7,8,31,35],[(1,[(12,2,[]),(20,2,[])]++dr 0 12++[(13,0,[]),(14,0,[])]++dr 16 3++[(15,1,[0,1,2,3,4,5,6,7,8,9,10,11,16,17,18]),(19,0,[]),(21,1,[])])]⟩
def sg31:Sig:=⟨[.bor],.fresh [[none,none,none,none,none,none,none,none,some (38,2),none,some (3,1),some (3,1),some (3,1)]],[0,1,2],[]⟩
def sg37:Sig:=⟨[.bor,.bor],.sc [.one (.i .i64 0)],[0,1,2,4,8],[]⟩
def sg60:Sig:=⟨[.own [none,none,none,none,none,none,none,none,some (38,2),none,some (3,1),some (3,1),some (3,1)]],.fresh [[none,none,none,none,none,none,none,none,some (38,2),none,some (3,1),some (3,1),some (3,1)]],[0,1,2,3,4,5,11,17,26,41],[(10,dr 0 13)]⟩
def sg32:Sig:=⟨[.own [none,none,none,none,none,none,none,none,some (38,2),none,some (3,1),some (3,1),some (3,1)],.bor],.fresh [[none,none,none,none,none,none,none,none,some (38,2),none,some (3,1),some (3,1),some (3,1)]],[0,1,2,4,13],[(3,dr 0 7++[(7,1,[])]),(4,dr 0 8++[(8,1,[])])]⟩
def sg61:Sig:=⟨[.bor,.bor],.fresh [[none,none,none,none,none,none,none,none,some (38,2),none]],[0,1,2,4,5,6,7,16,51],[(4,[(14,2,[])]++dr 0 14++[(15,1,[])]),(8,dr 0 11++[(11,1,[0,1]),(12,1,[]),(13,0,[]),(14,1,[])]),(1000005,[(384,8,[38,2])])]⟩
def sg33:Sig:=⟨[.bor],.fresh [[some (29,10)]],[0,1,2,3,4,9,15],[]⟩
def sg83:Sig:=⟨[.own [none,none,none,none,none,none,none,none,some (38,2),none,some (3,1),some (3,1),some (3,1)]],.fresh [[none,none,none,none,none,none,none,none,some (38,2),none,some (3,1),some (3,1),some (3,1)],[some (29,10)]],[0,1,2,3,4,18],[(9,dr 0 5++[(5,1,[0,1]),(6,1,[]),(7,0,[]),(8,1,[])]),(12,[(0,0,[]),(1,0,[]),(2,1,[0]),(3,1,[]),(4,0,[])])]⟩
def sg76:Sig:=⟨[.bor],.fresh [[none,none,none,none,none,none,none,none,some (38,2),none,some (3,1),some (3,1),some (3,1)],[some (29,10)]],[0,1,2,3,4,5,6,7,11,23,45,56,62],[(19,dr 0 13++[(13,1,[0]),(14,1,[]),(15,1,[])])]⟩
def sg12:Sig:=⟨[.bor,.bor],.fresh [[none,none,none,none,none,none,none,none,some (38,2),none,some (3,1),some (3,1),some (3,1)],[some (29,10)],[none]],[0,1,2,4,5,6,9,32],[(7,[(0,0,[]),(1,0,[]),(3,0,[]),(2,1,[0,3]),(4,0,[]),(5,1,[]),(6,0,[]),(7,0,[])])]⟩
def sg77:Sig:=⟨[.bor,.bor],.fresh [[none,none,none,none,none,none,none,none,some (38,2),none,some (3,1),some (3,1),some (3,1)],[none]],[0,1,2,4,5,8,21],[]⟩
def sg102:Sig:=⟨[.bor],.sc [.one (.b false)],[0,2],[]⟩
def sg103:Sig:=⟨[.bor,.bor,.bor],.sc [.one (.b false)],[0,1,2,6,7,9,13,33],[]⟩
def sg112:Sig:=⟨[.bor,.bor],.sc [.one (.b false)],[0,1,4,5,10,14,25],[(6,dr 0 9)]⟩
def sg104:Sig:=⟨[.bor,.bor],.sc [.one (.b false)],[0,1,2,3,4,65],[]⟩
def sg84:Sig:=⟨[.bor],.sc [.one (.b false)],[0,1,2,3,4,5,6,32,40,41,64,74,132,146],[]⟩
def sg85:Sig:=⟨[.own [none,none,none,none,none,none,none,none,some (38,2),none,some (3,1),some (3,1),some (3,1)],.bor],.fresh [[none,none,none,none,none,none,none,none,some (38,2),none,some (3,1),some (3,1),some (3,1)]],[0,1,2,4,8],[]⟩
def sg86:Sig:=⟨[.own [none,none,none,none,none,none,none,none,some (38,2),none,some (3,1),some (3,1),some (3,1)],.bor],.fresh [[none,none,none,none,none,none,none,none,some (38,2),none,some (3,1),some (3,1),some (3,1)],[some (29,10)]],[0,1,2,3,4,5,6,7,8,47],[(6,dr 0 9++[(10,1,[1,2,3,4,5,6,7,8]),(9,1,[0]),(11,0,[])])]⟩
def sg87:Sig:=⟨[.own [none,none,none,none,none,none,none,none,some (38,2),none,some (3,1),some (3,1),some (3,1)],.bor],.fresh [[none,none,none,none,none,none,none,none,some (38,2),none,some (3,1),some (3,1),some (3,1)],[some (29,10)]],[0,1,2,3,4,5,6,7,8,9,17,24,36,48],[(1000008,[(2496,0,[])])]⟩
def sg105:Sig:=⟨[.bor,.bor,.bor,.bor],.fresh [[some (29,10)]],[0,1,2,3,4,8],[]⟩
def sg88:Sig:=⟨[.own [none,none,none,none,none,none,none,none,some (38,2),none,some (3,1),some (3,1),some (3,1)],.bor],.fresh [[none,none,none,none,none,none,none,none,some (38,2),none,some (3,1),some (3,1),some (3,1)],[some (29,10)]],[0,1,2,3,4,5,6,7,8,9,10,11,12,15,32,40,65,71,90,104,117,138,143,149,162,176,181,188],[(13,dr 0 18),(16,dr 0 6++[(6,1,[0]),(7,1,[]),(8,0,[])]),(17,dr 0 12),(21,dr 0 5++[(5,1,[0]),(6,1,[]),(7,0,[])]),(27,dr 0 15),(34,dr 0 6++[(6,1,[0,1]),(7,1,[]),(8,0,[]),(9,1,[])]),(41,dr 0 5++[(5,1,[0]),(6,1,[]),(7,0,[])])]⟩
def sg89:Sig:=⟨[.own [none,none,none,none,none,none,none,none,some (38,2),none,some (3,1),some (3,1),some (3,1)],.bor],.fresh [[none,none,none,none,none,none,none,none,some (38,2),none,some (3,1),some (3,1),some (3,1)],[some (29,10)]],[0,1,2,3,4,5,6,7,8,11,17,23,32,55,73,84,97],[(13,dr 0 8),(14,dr 0 3++[(3,1,[0]),(5,1,[]),(4,1,[0]),(6,0,[])]),(24,dr 0 3++[(3,1,[0]),(5,1,[]),(4,1,[0]),(6,0,[])])]⟩
def sg90:Sig:=⟨[.own [none,none,none,none,none,none,none,none,some (38,2),none,some (3,1),some (3,1),some (3,1)],.bor],.fresh [[none,none,none,none,none,none,none,none,some (38,2),none,some (3,1),some (3,1),some (3,1)],[some (29,10)]],[0,1,2,3,4,5,8,22,43],[(6,dr 0 6++[(6,1,[0]),(7,1,[]),(8,0,[])]),(7,dr 0 14),(13,dr 0 6++[(6,1,[0]),(7,1,[]),(8,0,[])])]⟩
def sg78:Sig:=⟨[.bor,.bor],.fresh [[none,none,none,none,none,none,none,none,some (38,2),none,some (3,1),some (3,1),some (3,1)],[some (29,10)]],[0,1,2,3,4,5,8,34,41,43,44,55,73,79,80,87,94,101],[(9,dr 0 8++[(9,1,[1,2,3,4,5,6,7]),(8,1,[0]),(10,0,[])]),(12,dr 0 8++[(9,1,[1,2,3,4,5,6,7]),(8,1,[0]),(10,0,[])])]⟩
def sg36:Sig:=⟨[.ptr [none,none,none],.bor,.bor,.bor],.fresh [[none,none,none,none,none,none,none,none,some (38,2),none]],[0,1,2,3,8,9,10,11,29,36,43,56,62,68,85],[]⟩
def sg19:Sig:=⟨[.ptr [none,none,none],.bor],.fresh [[none,none,none,none,none,none,none,none,some (38,2),none]],[0,1,3,4,5,24,44],[(1,[(8,2,[])]++dr 0 7++[(7,1,[]),(9,1,[])]),(4,dr 0 7++[(7,1,[0,1]),(8,0,[]),(9,0,[]),(10,1,[])])]⟩
def sg64:Sig:=⟨[.ptr [none,none,none],.own [none,none,none,none,none,none,none,none,some (38,2),none,some (3,1),some (3,1),some (3,1)]],.fresh [[none,none,none,none,none,none,none,none,some (38,2),none,some (3,1),some (3,1),some (3,1)]],[0,1,3,4,5,7,16,24,34,46,49],[(7,[(0,0,[]),(1,0,[]),(2,1,[0]),(3,1,[])]++dr 4 4++[(8,1,[6,7])]),(9,dr 0 4++[(4,1,[0,1,2]),(5,0,[]),(6,1,[])]++dr 7 3++[(10,1,[9])]),(2,dr 0 3++[(3,1,[0]),(4,1,[])]++dr 5 3++[(8,1,[7])]),(3000014,[(12297,0,[])]++dr 12299 3)]⟩
def sg34:Sig:=⟨[.ptr [none,none,none],.bor],.fresh [[none,none,none,none,none,none,none,none,some (38,2),none,some (3,1),some (3,1),some (3,1)]],[0,1,4,5,6,7,8,9,18,30,40],[(5,[(9,2,[]),(0,0,[]),(1,0,[]),(3,0,[]),(4,0,[]),(2,1,[3,4]),(5,1,[])]++dr 6 3++[(10,1,[8]),(11,0,[])]),(3000007,[(28681,0,[])]++dr 28683 3)]⟩
def sg15:Sig:=⟨[.ptr [none,none,none],.bor],.fresh [[none,none,none,none,none,none,none,none,some (38,2),none,some (3,1),some (3,1),some (3,1)]],[0,1,4,5,11,16,21,27,33,38,51,60,66,71,82,87],[(14,dr 0 7++[(7,1,[0,1])]++dr 8 3++[(11,1,[])]),(16,dr 0 3++[(3,1,[0,1]),(4,1,[0,1]),(5,1,[]),(6,0,[]),(7,1,[])]),(21,dr 0 6++[(7,0,[]),(6,1,[0,1,7]),(8,1,[0,1]),(9,0,[]),(10,1,[])]),(24,dr 0 6++[(7,0,[]),(6,1,[0,1,7]),(8,1,[0,1]),(9,0,[]),(10,0,[]),(11,1,[])])]⟩
def sg10:Sig:=⟨[.bor],.fresh [[none,none,none,none,none,none,none,none,some (38,2),none,some (3,1),some (3,1),some (3,1)],[none]],[0,2,3,4,5,6,7,8,14,22],[]⟩
def sg40:Sig:=⟨[.bor,.bor,.bor],.sc [.one (.b false)],[0,1,2,6],[]⟩
def sg42:Sig:=⟨[.rptr 13,.bor],.fresh [[none,none,none,none,none,some (38,2)]],[0,1,4,5,24],[(1,[(14,2,[])]++dr 0 12++[(12,1,[0,1,2,3,4,5,6,7]),(13,0,[]),(15,1,[])]),(3,dr 0 11++[(11,1,[])])]⟩
def sg41:Sig:=⟨[.bor],.sc [.one (.b false)],[0,1,2,3,5,21,48,54,55,56,57,72],[]⟩
def sg43:Sig:=⟨[.rptr 13],.sc [.one (.i .i64 0)],[0,2],[(1,dr 0 11)]⟩
def sg79:Sig:=⟨[.bor,.bor],.sc [.one (.i .i64 0)],[0,1,4,5,7,8,9,16],[]⟩
def sg65:Sig:=⟨[.bor,.bor],.sc [.one (.b false)],[0,1,4],[]⟩
def sg66:Sig:=⟨[.rptr 13,.bor],.sc [.one (.b false)],[0,1,4],[]⟩
def sg44:Sig:=⟨[.rptr 13],.sc [.one (.b false)],[0,2,3,4,8,9,10,11,38],[(7,dr 0 59)]⟩
def sg45:Sig:=⟨[.rptr 13],.sc [.one (.b false)],[0,2,3,4,63,67,68,69,70,99],[(1,dr 0 59),(6,dr 0 26),(9,dr 0 14)]⟩
def sg25:Sig:=⟨[.bor],.sc [.one (.b false)],[0,1,2,51,53,54,83,86],[(1,dr 0 36++[(36,1,[])]++dr 37 12)]⟩
def sg46:Sig:=⟨[.bor],.fresh [[some (3,1)]],[0,2],[]⟩
def sg26:Sig:=⟨[.bor],.fresh [[none,none,none,none,none,none,none,none,some (38,2),none,some (3,1),some (3,1),some (3,1)]],[0,1,2],[]⟩
def sg56:Sig:=⟨[.rptr 13],.sc [.one (.b false)],[0,2],[]⟩
def sg57:Sig:=⟨[.ptr [none,none,none,none,none,none,none,none,some (38,2),none,some (3,1),some (3,1),some (3,1)]],.sc [],[0],[(0,dr 0 11++[(11,1,[])]),(1,dr 0 12++[(12,1,[])])]⟩
def sg70:Sig:=⟨[.rptr 13,.bor],.sc [.one (.i .i64 0)],[0,1,4,10],[(3,dr 0 15)]⟩
def sg58:Sig:=⟨[.ptr [none,none,none,none,none,none,none,none,some (38,2),none,some (3,1),some (3,1),some (3,1)]],.sc [],[0,2,3,5,13,19,20,21,22,27,43],[(10,dr 0 13)]⟩
def sg75:Sig:=⟨[.rptr 13],.fresh [[some (3,1)]],[0,2,3,4,9,10,11,18],[(1000006,[(1344,0,[])])]⟩
def sg74:Sig:=⟨[.rptr 13,.bor],.fresh [[none,none,none,none,none,none,none,none,some (38,2),none]],[0,1,4,5,6,7,30],[(1,[(10,2,[])]++dr 0 10++[(11,1,[])]),(12,dr 0 11++[(11,1,[]),(12,0,[])])]⟩
def sg59:Sig:=⟨[.rptr 13],.fresh [[some (29,10)]],[0,2,3,5,8,9,10,11],[]⟩
def sg30:Sig:=⟨[.ptr [none,none,none,none,none,none,none,none,some (38,2),none,some (3,1),some (3,1),some (3,1)],.bor],.fresh [[some (29,10)],[none]],[0,1,4,5,20],[(3,dr 0 11++[(11,1,[0,1,2,3,4]),(12,1,[0]),(13,0,[]),(14,0,[]),(15,1,[])])]⟩
def sg11:Sig:=⟨[.bor,.bor],.fresh [[none,none,none,none,none,none,none,none,some (38,2),none,some (3,1),some (3,1),some (3,1)],[some (29,10)],[none]],[0,1,2,4,5,6,7,8,9,12],[]⟩
def sg13:Sig:=⟨[.bor,.bor],.sc [.one (.b false)],[0,1,4,5,10,14,25],[(6,dr 0 9)]⟩
def sg67:Sig:=⟨[.bor,.bor],.sc [.one (.b false)],[0,1,4],[]⟩
def sg68:Sig:=⟨[.rptr 10],.sc [.one (.b false)],[0,2,3,5,14,15,16,17,34],[(5,dr 0 15),(9,dr 0 20)]⟩
def sg80:Sig:=⟨[.bor,.bor],.sc [.one (.b false)],[0,1,4,5,10,12,13,14,24],[(6,dr 0 9)]⟩
def sg69:Sig:=⟨[.bor,.bor],.sc [.one (.b false)],[0,1,2,3,4],[]⟩
def sg47:Sig:=⟨[.bor],.sc [.one (.b false)],[0,1,2,3,4,35,36,59,64,101,115],[(6,dr 0 5++[(5,1,[2,3]),(6,0,[]),(7,1,[])]),(11,dr 0 9++[(9,1,[2,3,4,5,6,7]),(10,0,[]),(11,1,[4,5,6,7]),(12,0,[]),(13,1,[6,7]),(14,0,[]),(15,1,[])]),(14,dr 0 5++[(5,1,[2,3]),(6,0,[]),(7,1,[])]),(17,dr 0 7++[(7,1,[2,3,4,5]),(8,0,[]),(9,1,[4,5]),(10,0,[]),(11,1,[])])]⟩
def sg48:Sig:=⟨[.rptr 13,.bor,.bor,.bor],.fresh [[some (29,10)]],[0,1,2,3,5,8],[(1,dr 0 13++[(13,1,[]),(14,0,[])])]⟩
def sg49:Sig:=⟨[.ptr [none,none,none,none,none,none,none,none,some (38,2),none,some (3,1),some (3,1),some (3,1)],.bor],.sc [],[0,1,9],[]⟩
def sg50:Sig:=⟨[.rptr 13,.bor],.fresh [[some (29,10)]],[],[]⟩
def sg51:Sig:=⟨[.rptr 13,.bor],.fresh [[some (29,10)]],[],[]⟩
def sg52:Sig:=⟨[.rptr 13,.bor],.fresh [[some (29,10)]],[],[]⟩
def sg53:Sig:=⟨[.ptr [none,none,none,none,none,none,none,none,some (38,2),none,some (3,1),some (3,1),some (3,1)],.bor],.fresh [[some (29,10)]],[0,1,3,4,5,6,7,12,16,30,57,91],[(5,dr 0 6),(11,dr 0 10),(14,dr 0 22)]⟩
def sg54:Sig:=⟨[.rptr 13,.bor],.fresh [[some (29,10)]],[],[]⟩
def sg27:Sig:=⟨[.ptr [none,none,none,none,none,none,none,none,some (38,2),none,some (3,1),some (3,1),some (3,1)],.bor],.fresh [[some (29,10)]],[0,1,3,4,25,32,34,35,49,61,67,68,73,78,83],[(1,dr 0 21),(3,dr 0 7),(6,dr 0 11++[(11,1,[]),(12,0,[])]),(11,dr 0 7)]⟩
def sg9:Sig:=⟨[.bor,.bor],.fresh [[none,none,none,none,none,none,none,none,some (38,2),none,some (3,1),some (3,1),some (3,1)],[some (29,10)]],[0,1,2,3,4,5,6,7,10],[]⟩
def sg4:Sig:=⟨[.bor],.sc [.one (.b false)],[0,2,3,4,5,6,7,9,10,11,12,14,43,45,103,106,121,127,131],[(10,dr 0 55),(3000021,[(20489,0,[])]++dr 20491 3)]⟩
def sig:Nat→Sig:=lkF ⟨[],.fresh [],[],[]⟩ [(5,sg5),(14,sg14),(55,sg55),(29,sg29),(28,sg28),(17,sg17),(16,sg16),(38,sg38),(62,sg62),(35,sg35),(20,sg20),(39,sg39),(21,sg21),(22,sg22),(23,sg23),(24,sg24),(7,sg7),(63,sg63),(31,sg31),(37,sg37),(60,sg60),(32,sg32),(61,sg61),(33,sg33),(83,sg83),(76,sg76),(12,sg12),(77,sg77),(102,sg102),(103,sg103),(112,sg112),(104,sg104),(84,sg84),(85,sg85),(86,sg86),(87,sg87),(105,sg105),(88,sg88),(89,sg89),(90,sg90),(78,sg78),(36,sg36),(19,sg19),(64,sg64),(34,sg34),(15,sg15),(10,sg10),(40,sg40),(42,sg42),(41,sg41),(43,sg43),(79,sg79),(65,sg65),(66,sg66),(44,sg44),(45,sg45),(25,sg25),(46,sg46),(26,sg26),(56,sg56),(57,sg57),(70,sg70),(58,sg58),(75,sg75),(74,sg74),(59,sg59),(30,sg30),(11,sg11),(13,sg13),(67,sg67),(68,sg68),(80,sg80),(69,sg69),(47,sg47),(48,sg48),(49,sg49),(50,sg50),(51,sg51),(52,sg52),(53,sg53),(54,sg54),(27,sg27),(9,sg9),(4,sg4)]
def dep:Nat→Nat:=lkF 0 [(5,1),(14,1),(55,1),(29,2),(28,3),(17,3),(16,1),(38,4),(62,5),(35,3),(20,1),(39,2),(21,3),(22,1),(23,1),(24,1),(7,4),(63,5),(31,1),(37,1),(60,2),(32,3),(61,2),(33,3),(83,4),(76,5),(12,5),(77,5),(102,2),(103,2),(112,1),(104,2),(84,3),(85,1),(86,2),(87,5),(105,1),(88,2),(89,3),(90,2),(78,6),(36,5),(19,6),(64,7),(34,8),(15,9),(10,10),(40,1),(42,1),(41,2),(43,1),(79,1),(65,2),(66,1),(44,3),(45,2),(25,4),(46,1),(26,2),(56,2),(57,2),(70,1),(58,2),(75,1),(74,2),(59,3),(30,4),(11,5),(13,1),(67,2),(68,2),(80,1),(69,2),(47,3),(48,1),(49,1),(50,1),(51,1),(52,1),(53,3),(54,1),(27,4),(9,5),(4,11)]
def gT:List (Nat × (List DV→Bool × List DV × List (List D))):=[(5,th5),(14,th14),(55,th55),(29,th29),(28,th28),(17,th17),(16,th16),(38,th38),(62,th62),(35,th35),(20,th20),(39,th39),(21,th21),(22,th22),(23,th23),(24,th24),(7,th7),(63,th63),(31,th31),(37,th37),(60,th60),(32,th32),(61,th61),(33,th33),(83,th83),(76,th76),(12,th12),(77,th77),(102,th102),(103,th103),(112,th112),(104,th104),(84,th84),(85,th85),(86,th86),(87,th87),(105,th105),(88,th88),(89,th89),(90,th90),(78,th78),(36,th36),(19,th19),(64,th64),(34,th34),(15,th15),(10,th10),(40,th40),(42,th42),(41,th41),(43,th43),(79,th79),(65,th65),(66,th66),(44,th44),(45,th45),(25,th25),(46,th46),(26,th26),(56,th56),(57,th57),(70,th70),(58,th58),(75,th75),(74,th74),(59,th59),(30,th30),(11,th11),(13,th13),(67,th67),(68,th68),(80,th80),(69,th69),(47,th47),(48,th48),(49,th49),(50,th50),(51,th51),(52,th52),(53,th53),(54,th54),(27,th27),(9,th9),(4,th4)]
def G:Nat→List DV→Bool × List DV × List (List D):=lkF (fun _=>(false,[],[])) gT
noncomputable def mkC (f:Nat):Ctx:=⟨Tryz.prog,sig,Gd G dep (dep f),(sig f).keep,(sig f).ord⟩
noncomputable def gc (f:Func):Code:=f.body.getD .skip
noncomputable def bd (c:Code) (n:Nat):Code:=match nodeAt c n with | some (.loop a)=>a | _=>.skip
def Rp (tw:List Vr→Rs) (C:Ctx) (S:LT) (fn:Func) (sg:Sig) (c:Code) (A:List TA):Prop:=∀w,tw w=bodyK C (lkS S) fn sg c (fillAs A 0 w)
theorem okM {Y:Type} {f:Nat} {fn:Func} {S:LT} {A:List TA} {v:Y→List Vr→Rs} {a t u:Y} {c:Code} {zr:List DV} {zo:List (List D)} (r:Rp (v a) (mkC f) S fn (sig f) c A) (hf:Tryz.prog.funcs[f]? = some fn) (hb:fn.body=some c) (hs:AllS (mkC f) KK c 0 S) (e:a=t) (hu:u=t):OkS sig (Gd G dep (dep f)) f (fun xs=>gOf zr zo (argsT A (v u) xs)):=fun xs q h=>body_ok hf hb A (v a) (sums_of hs) r (by rw [e,←hu];exact opt_gOf h)
theorem hole {zr:List DV} {zo:List (List D)} {A:List TA} {t:List Vr→Rs} (ht:∀w,t w=none):∀xs q,opt (gOf zr zo (argsT A t xs))=some q→False:=fun xs q h=>by
  have e:argsT A t xs=none:=by unfold argsT;split;exact ht _;rfl
  rw [e] at h;simp [gOf,opt,okR] at h
def C5:=mkC 5
def c5:=gc Tryz.f5
def ST5:LT:=[]
theorem r5:Rp (v5 t5) C5 ST5 Tryz.f5 (sig 5) c5 A5:=fun w=>by kernel_rfl
theorem ok5:OkS sig (Gd G dep (dep 5)) 5 th5:=okM (v:=v5) r5 Tryz.func5 rfl trivial te5 ue5
def C14:=mkC 14
def c14:=gc Tryz.f14
def T14o0:TSt:=⟨[dL,.nilp,dI,dI,.any],[]⟩
def X14o0e1:TSt:=⟨[dL,.nilp,dI,dI,dB],[]⟩
def L14o0 (m:Nat) (w:List Vr) (K:KT):Rs:=l14o0 (vL w 0) (fun n13 n14 b15=>K (.exit 0) (fillS X14o0e1 [jL w 0,.i n13,.i n14,.b b15])) m (vI w 1) (vI w 2) (vV w 3)
def ST14:LT:=[(0,sumT T14o0 (L14o0 KK))]
def b14o0:=bd c14 0
theorem q14o0:Qp L14o0 C14 ST14 b14o0 1 T14o0:=fun m w K=>by kernel_rfl
theorem o14o0:SumOk C14 KK (sumT T14o0 (L14o0 KK)) (.loop b14o0):=loop_ok T14o0 L14o0 (sums_of (t:=ST14) ⟨fun _ _ h=>absurd h (by decide),trivial⟩) (fun _ _=>rfl) q14o0
theorem r14:Rp (v14 t14) C14 ST14 Tryz.f14 (sig 14) c14 A14:=fun w=>by kernel_rfl
theorem ok14:OkS sig (Gd G dep (dep 14)) 14 th14:=okM (v:=v14) r14 Tryz.func14 rfl ⟨sum_in (c':=.loop b14o0) (by kernel_rfl) (o14o0),trivial⟩ te14 ue14
def C55:=mkC 55
def c55:=gc Tryz.f55
def ST55:LT:=[]
theorem r55:Rp (v55 t55) C55 ST55 Tryz.f55 (sig 55) c55 A55:=fun w=>by kernel_rfl
theorem ok55:OkS sig (Gd G dep (dep 55)) 55 th55:=okM (v:=v55) r55 Tryz.func55 rfl trivial te55 ue55
def C29:=mkC 29
def c29:=gc Tryz.f29
def ST29:LT:=[]
theorem r29:Rp (v29 (ta29 tu55)) C29 ST29 Tryz.f29 (sig 29) c29 A29:=fun w=>by kernel_rfl
theorem ok29:OkS sig (Gd G dep (dep 29)) 29 th29:=okM (v:=v29) r29 Tryz.func29 rfl trivial te29 ue29
def C28:=mkC 28
def c28:=gc Tryz.f28
def T28o0:TSt:=⟨[.ptr 0 0,dI,dS,.own 576,dI,dI,.any,.any,.any,.any],[(0,bx0),(576,.row 5 1)]⟩
def X28o0e1:TSt:=⟨[.ptr 0 0,dI,dS,.own 576,dI,dI,.any,dB,.any,.any],[(0,bx0),(576,.row 5 1)]⟩
def L28o0 (m:Nat) (w:List Vr) (K:KT):Rs:=la28o0 tu29 tu55 (vI w 0) (vS w 1) (vI w 2) (vL w 8) (fun n41 v42 b43 v44 v45 n46 n47 l48=>K (.exit 0) (fillS X28o0e1 [jI w 0,jS w 1,jI w 2,.i n41,.v v42,.b b43,.v v44,.v v45,jL w 8,.i n46,.i n47,.l l48])) m (vI w 3) (vV w 4) (vV w 5) (vV w 6) (vV w 7) (vI w 9) (vI w 10) (vL w 11)
def ST28:LT:=[(0,sumT T28o0 (L28o0 KK))]
def b28o0:=bd c28 0
theorem q28o0:Qp L28o0 C28 ST28 b28o0 1 T28o0:=fun m w K=>by kernel_rfl
theorem o28o0:SumOk C28 KK (sumT T28o0 (L28o0 KK)) (.loop b28o0):=loop_ok T28o0 L28o0 (sums_of (t:=ST28) ⟨fun _ _ h=>absurd h (by decide),trivial⟩) (fun _ _=>rfl) q28o0
theorem r28:Rp (v28 (ta28 tu29 tu55)) C28 ST28 Tryz.f28 (sig 28) c28 A28:=fun w=>by kernel_rfl
theorem ok28:OkS sig (Gd G dep (dep 28)) 28 th28:=okM (v:=v28) r28 Tryz.func28 rfl ⟨sum_in (c':=.loop b28o0) (by kernel_rfl) (o28o0),trivial⟩ te28 ue28
def C17:=mkC 17
def c17:=gc Tryz.f17
def ST17:LT:=[]
theorem r17:Rp (v17 (ta17 tu29)) C17 ST17 Tryz.f17 (sig 17) c17 A17:=fun w=>by kernel_rfl
theorem ok17:OkS sig (Gd G dep (dep 17)) 17 th17:=okM (v:=v17) r17 Tryz.func17 rfl trivial te17 ue17
def C16:=mkC 16
def c16:=gc Tryz.f16
def ST16:LT:=[]
theorem r16:Rp (v16 t16) C16 ST16 Tryz.f16 (sig 16) c16 A16:=fun w=>by kernel_rfl
theorem ok16:OkS sig (Gd G dep (dep 16)) 16 th16:=okM (v:=v16) r16 Tryz.func16 rfl trivial te16 ue16
def C38:=mkC 38
def c38:=gc Tryz.f38
def T38o0:TSt:=⟨[.ptr 0 0,dI,dI,dI,.nils,.own 704,dI,.any,.any,.any],[(0,bx0),(704,.row 38 2)]⟩
def X38o0e1:TSt:=⟨[.ptr 0 0,dI,dI,dI,.own 704,.own 704,dI,dB,dB,dB],[(0,bx0),(704,.row 38 2)]⟩
def X38o0e2:TSt:=⟨[.ptr 0 0,dI,dI,dI,.nils,.own 704,dI,dB,.any,.any],[(0,bx0),(704,.row 38 2)]⟩
def L38o0 (m:Nat) (w:List Vr) (K:KT):Rs:=la38o0 tu17 tu28 tu29 (vI w 0) (vI w 2) (vL w 7) (fun n52 n53 b54 b55 b56 n57 n58 l59=>K .ret (fillS X38o0e1 [jI w 0,.i n52,jI w 2,.i n53,.b b54,.b b55,.b b56,jL w 7,.i n57,.i n58,.l l59])) (fun n60 n61 b62 v63 v64 n65 n66 l67=>K (.exit 0) (fillS X38o0e2 [jI w 0,.i n60,jI w 2,.i n61,.b b62,.v v63,.v v64,jL w 7,.i n65,.i n66,.l l67])) m (vI w 1) (vI w 3) (vV w 4) (vV w 5) (vV w 6) (vI w 8) (vI w 9) (vL w 10)
def ST38:LT:=[(0,sumT T38o0 (L38o0 KK))]
def b38o0:=bd c38 0
theorem q38o0:Qp L38o0 C38 ST38 b38o0 1 T38o0:=fun m w K=>by kernel_rfl
theorem o38o0:SumOk C38 KK (sumT T38o0 (L38o0 KK)) (.loop b38o0):=loop_ok T38o0 L38o0 (sums_of (t:=ST38) ⟨fun _ _ h=>absurd h (by decide),trivial⟩) (fun _ _=>rfl) q38o0
theorem r38:Rp (v38 (ta38 tu17 tu28 tu29)) C38 ST38 Tryz.f38 (sig 38) c38 A38:=fun w=>by kernel_rfl
theorem ok38:OkS sig (Gd G dep (dep 38)) 38 th38:=okM (v:=v38) r38 Tryz.func38 rfl ⟨sum_in (c':=.loop b38o0) (by kernel_rfl) (o38o0),trivial⟩ te38 ue38
def C62:=mkC 62
def c62:=gc Tryz.f62
def T62o3:TSt:=⟨[.ptr 0 0,.ptr 128 0,.ptr 192 0,dI,dB,dB,dB,.any],[(0,bx0),(128,.box [dI,dI,dI,dI,dS,.nils]),(192,.box [dI,dI,dI,dI,dS,.own 12294]),(12294,.row 38 2)]⟩
def X62o3e1:TSt:=⟨[.ptr 0 0,.ptr 128 0,.ptr 192 0,dI,dB,dB,dB,dB],[(0,bx0),(128,.box [dI,dI,dI,dI,dS,.nils]),(192,.box [dI,dI,dI,dI,dS,.own 12294]),(12294,.row 38 2)]⟩
def L62o3 (m:Nat) (w:List Vr) (K:KT):Rs:=la62o3 tu17 tu28 tu29 tu38 (vI w 0) (vB w 1) (vB w 2) (vB w 3) (vL w 5) (vI w 6) (vI w 7) (vI w 8) (vI w 9) (vI w 10) (vI w 11) (vS w 12) (vI w 13) (vI w 14) (vI w 15) (vI w 16) (vS w 17) (fun b70 l71=>K (.exit 0) (fillS X62o3e1 [jI w 0,jB w 1,jB w 2,jB w 3,.b b70,jL w 5,jI w 6,jI w 7,jI w 8,jI w 9,jI w 10,jI w 11,jS w 12,jI w 13,jI w 14,jI w 15,jI w 16,jS w 17,.l l71])) m (vV w 4) (vL w 18)
def ST62:LT:=[(3,sumT T62o3 (L62o3 KK))]
def b62o3:=bd c62 3
theorem q62o3:Qp L62o3 C62 ST62 b62o3 4 T62o3:=fun m w K=>by kernel_rfl
theorem o62o3:SumOk C62 KK (sumT T62o3 (L62o3 KK)) (.loop b62o3):=loop_ok T62o3 L62o3 (sums_of (t:=ST62) ⟨fun _ _ h=>absurd h (by decide),trivial⟩) (fun _ _=>rfl) q62o3
theorem r62:Rp (v62 (ta62 tu17 tu28 tu29 tu38)) C62 ST62 Tryz.f62 (sig 62) c62 A62:=fun w=>by kernel_rfl
theorem ok62:OkS sig (Gd G dep (dep 62)) 62 th62:=okM (v:=v62) r62 Tryz.func62 rfl ⟨sum_in (c':=.loop b62o3) (by kernel_rfl) (o62o3),trivial⟩ te62 ue62
def C35:=mkC 35
def c35:=gc Tryz.f35
def ST35:LT:=[]
theorem r35:Rp (v35 (ta35 tu29)) C35 ST35 Tryz.f35 (sig 35) c35 A35:=fun w=>by kernel_rfl
theorem ok35:OkS sig (Gd G dep (dep 35)) 35 th35:=okM (v:=v35) r35 Tryz.func35 rfl trivial te35 ue35
def C20:=mkC 20
def c20:=gc Tryz.f20
def ST20:LT:=[]
theorem r20:Rp (v20 t20) C20 ST20 Tryz.f20 (sig 20) c20 A20:=fun w=>by kernel_rfl
theorem ok20:OkS sig (Gd G dep (dep 20)) 20 th20:=okM (v:=v20) r20 Tryz.func20 rfl trivial te20 ue20
def C39:=mkC 39
def c39:=gc Tryz.f39
def ST39:LT:=[]
theorem r39:Rp (v39 (ta39 tu20)) C39 ST39 Tryz.f39 (sig 39) c39 A39:=fun w=>by kernel_rfl
theorem ok39:OkS sig (Gd G dep (dep 39)) 39 th39:=okM (v:=v39) r39 Tryz.func39 rfl trivial te39 ue39
def C21:=mkC 21
def c21:=gc Tryz.f21
def T21o1:TSt:=⟨[ag5,.ptr 64 0,dB,dI,dI,.undef,dB,.any,.any],[(64,bx15)]⟩
def X21o1e1:TSt:=⟨[ag5,.ptr 64 0,dB,dI,dI,.ptr 320 0,dB,dB,dB],[(64,bx15),(320,.box [dI,dS])]⟩
def X21o1e2:TSt:=⟨[ag5,.ptr 64 0,dB,dI,dI,.undef,dB,dB,.any],[(64,bx15)]⟩
def L21o1 (m:Nat) (w:List Vr) (K:KT):Rs:=la21o1 tu20 tu39 (vI w 0) (vI w 1) (vI w 2) (vI w 3) (vS w 4) (vL w 5) (vB w 6) (vB w 9) (vI w 12) (vI w 13) (vI w 14) (vI w 15) (vS w 16) (vL w 17) (fun n59 n60 b61 b62 n63 s64=>K .ret (fillS X21o1e1 [jI w 0,jI w 1,jI w 2,jI w 3,jS w 4,jL w 5,.b (false),.i n59,.i n60,jB w 9,.b b61,.b b62,jI w 12,jI w 13,jI w 14,jI w 15,jS w 16,jL w 17,.i n63,.s s64])) (fun n65 n66 b67 v68=>K (.exit 0) (fillS X21o1e2 [jI w 0,jI w 1,jI w 2,jI w 3,jS w 4,jL w 5,jB w 6,.i n65,.i n66,jB w 9,.b b67,.v v68,jI w 12,jI w 13,jI w 14,jI w 15,jS w 16,jL w 17])) m (vI w 7) (vI w 8) (vV w 10) (vV w 11)
def ST21:LT:=[(1,sumT T21o1 (L21o1 KK))]
def b21o1:=bd c21 1
theorem q21o1:Qp L21o1 C21 ST21 b21o1 2 T21o1:=fun m w K=>by kernel_rfl
theorem o21o1:SumOk C21 KK (sumT T21o1 (L21o1 KK)) (.loop b21o1):=loop_ok T21o1 L21o1 (sums_of (t:=ST21) ⟨fun _ _ h=>absurd h (by decide),trivial⟩) (fun _ _=>rfl) q21o1
theorem r21:Rp (v21 (ta21 tu20 tu39)) C21 ST21 Tryz.f21 (sig 21) c21 A21:=fun w=>by kernel_rfl
theorem ok21:OkS sig (Gd G dep (dep 21)) 21 th21:=okM (v:=v21) r21 Tryz.func21 rfl ⟨sum_in (c':=.loop b21o1) (by kernel_rfl) (o21o1),trivial⟩ te21 ue21
def C22:=mkC 22
def c22:=gc Tryz.f22
def ST22:LT:=[]
theorem r22:Rp (v22 t22) C22 ST22 Tryz.f22 (sig 22) c22 A22:=fun w=>by kernel_rfl
theorem ok22:OkS sig (Gd G dep (dep 22)) 22 th22:=okM (v:=v22) r22 Tryz.func22 rfl trivial te22 ue22
def C23:=mkC 23
def c23:=gc Tryz.f23
def ST23:LT:=[]
theorem r23:Rp (v23 t23) C23 ST23 Tryz.f23 (sig 23) c23 A23:=fun w=>by kernel_rfl
theorem ok23:OkS sig (Gd G dep (dep 23)) 23 th23:=okM (v:=v23) r23 Tryz.func23 rfl trivial te23 ue23
def C24:=mkC 24
def c24:=gc Tryz.f24
def T24o0:TSt:=⟨[dL,dI,dB,dI,.any,.any],[]⟩
def X24o0e1:TSt:=⟨[dL,dI,dB,dI,dB,dB],[]⟩
def X24o0e2:TSt:=⟨[dL,dI,dB,dI,dB,.any],[]⟩
def L24o0 (m:Nat) (w:List Vr) (K:KT):Rs:=l24o0 (vL w 0) (vI w 1) (vB w 2) (fun n19 b20 b21=>K .ret (fillS X24o0e1 [jL w 0,jI w 1,.b (true),.i n19,.b b20,.b b21])) (fun n22 b23 v24=>K (.exit 0) (fillS X24o0e2 [jL w 0,jI w 1,jB w 2,.i n22,.b b23,.v v24])) m (vI w 3) (vV w 4) (vV w 5)
def ST24:LT:=[(0,sumT T24o0 (L24o0 KK))]
def b24o0:=bd c24 0
theorem q24o0:Qp L24o0 C24 ST24 b24o0 1 T24o0:=fun m w K=>by kernel_rfl
theorem o24o0:SumOk C24 KK (sumT T24o0 (L24o0 KK)) (.loop b24o0):=loop_ok T24o0 L24o0 (sums_of (t:=ST24) ⟨fun _ _ h=>absurd h (by decide),trivial⟩) (fun _ _=>rfl) q24o0
theorem r24:Rp (v24 t24) C24 ST24 Tryz.f24 (sig 24) c24 A24:=fun w=>by kernel_rfl
theorem ok24:OkS sig (Gd G dep (dep 24)) 24 th24:=okM (v:=v24) r24 Tryz.func24 rfl ⟨sum_in (c':=.loop b24o0) (by kernel_rfl) (o24o0),trivial⟩ te24 ue24
def C7:=mkC 7
def c7:=gc Tryz.f7
def T7o8:TSt:=⟨[ag4,.ptr 64 0,dB,.undef,dI,dB,dI,dB,dB,.undef,.undef,dB,dB,.any,.any],[bn4,(1925,.row 38 2)]⟩
def X7o8e1:TSt:=⟨[ag4,.ptr 64 0,dB,.undef,dI,dB,dI,dB,dB,.undef,.undef,dB,dB,dB,dB],[bn4,(1925,.row 38 2)]⟩
def X7o8e2:TSt:=⟨[ag4,.ptr 64 0,dB,.undef,dI,dB,dI,dB,dB,.undef,.undef,dB,dB,dB,.any],[bn4,(1925,.row 38 2)]⟩
def L7o8 (m:Nat) (w:List Vr) (K:KT):Rs:=la7o8 tu20 tu21 tu22 tu23 tu24 (vI w 0) (vI w 1) (vI w 2) (vI w 3) (vI w 4) (vI w 5) (vI w 6) (vI w 7) (vL w 8) (vI w 9) (vL w 10) (vL w 11) (vL w 12) (vB w 13) (vB w 15) (vI w 16) (vB w 17) (vB w 18) (vB w 19) (vB w 20) (vI w 23) (vI w 24) (vI w 25) (vI w 26) (vI w 27) (vI w 28) (vI w 29) (vI w 30) (vL w 31) (vI w 32) (vL w 33) (vL w 34) (vL w 35) (vL w 36) (fun n238 b239 b240=>K .ret (fillS X7o8e1 [jI w 0,jI w 1,jI w 2,jI w 3,jI w 4,jI w 5,jI w 6,jI w 7,jL w 8,jI w 9,jL w 10,jL w 11,jL w 12,.b (false),.i n238,jB w 15,jI w 16,jB w 17,jB w 18,jB w 19,jB w 20,.b b239,.b b240,jI w 23,jI w 24,jI w 25,jI w 26,jI w 27,jI w 28,jI w 29,jI w 30,jL w 31,jI w 32,jL w 33,jL w 34,jL w 35,jL w 36])) (fun n241 b242 v243=>K (.exit 3) (fillS X7o8e2 [jI w 0,jI w 1,jI w 2,jI w 3,jI w 4,jI w 5,jI w 6,jI w 7,jL w 8,jI w 9,jL w 10,jL w 11,jL w 12,jB w 13,.i n241,jB w 15,jI w 16,jB w 17,jB w 18,jB w 19,jB w 20,.b b242,.v v243,jI w 23,jI w 24,jI w 25,jI w 26,jI w 27,jI w 28,jI w 29,jI w 30,jL w 31,jI w 32,jL w 33,jL w 34,jL w 35,jL w 36])) m (vI w 14) (vV w 21) (vV w 22)
def T7o3:TSt:=⟨[ag4,.ptr 64 0,dB,dI,.undef,dB,dI,dB,dB,.any,.any,.undef,.undef,.undef,.undef],[bn4,(1925,.row 38 2)]⟩
def X7o3e1:TSt:=⟨[ag4,.ptr 64 0,dB,dI,.undef,dB,dI,dB,dB,dB,dB,.undef,.undef,.undef,.undef],[bn4,(1925,.row 38 2)]⟩
def X7o3e2:TSt:=⟨[ag4,.ptr 64 0,dB,dI,.undef,dB,dI,dB,dB,dB,.any,.undef,.undef,.undef,.undef],[bn4,(1925,.row 38 2)]⟩
def L7o3 (m:Nat) (w:List Vr) (K:KT):Rs:=la7o3 tu20 tu21 tu22 tu23 tu24 (vI w 0) (vI w 1) (vI w 2) (vI w 3) (vI w 4) (vI w 5) (vI w 6) (vI w 7) (vL w 8) (vI w 9) (vL w 10) (vL w 11) (vL w 12) (vB w 13) (vB w 15) (vI w 16) (vB w 17) (vB w 18) (vI w 21) (vI w 22) (vI w 23) (vI w 24) (vI w 25) (vI w 26) (vI w 27) (vI w 28) (vL w 29) (vI w 30) (vL w 31) (vL w 32) (vL w 33) (vL w 34) (fun n117 b118 b119=>K .ret (fillS X7o3e1 [jI w 0,jI w 1,jI w 2,jI w 3,jI w 4,jI w 5,jI w 6,jI w 7,jL w 8,jI w 9,jL w 10,jL w 11,jL w 12,.b (false),.i n117,jB w 15,jI w 16,jB w 17,jB w 18,.b b118,.b b119,jI w 21,jI w 22,jI w 23,jI w 24,jI w 25,jI w 26,jI w 27,jI w 28,jL w 29,jI w 30,jL w 31,jL w 32,jL w 33,jL w 34])) (fun n120 b121 v122=>K (.exit 1) (fillS X7o3e2 [jI w 0,jI w 1,jI w 2,jI w 3,jI w 4,jI w 5,jI w 6,jI w 7,jL w 8,jI w 9,jL w 10,jL w 11,jL w 12,jB w 13,.i n120,jB w 15,jI w 16,jB w 17,jB w 18,.b b121,.v v122,jI w 21,jI w 22,jI w 23,jI w 24,jI w 25,jI w 26,jI w 27,jI w 28,jL w 29,jI w 30,jL w 31,jL w 32,jL w 33,jL w 34])) m (vI w 14) (vV w 19) (vV w 20)
def ST7:LT:=[(8,sumT T7o8 (L7o8 KK)),(3,sumT T7o3 (L7o3 KK))]
def b7o8:=bd c7 8
def b7o3:=bd c7 3
theorem q7o8:Qp L7o8 C7 ST7 b7o8 9 T7o8:=fun m w K=>by kernel_rfl
theorem o7o8:SumOk C7 KK (sumT T7o8 (L7o8 KK)) (.loop b7o8):=loop_ok T7o8 L7o8 (sums_of (t:=ST7) ⟨fun _ _ h=>absurd h (by decide),fun _ _ h=>absurd h (by decide),trivial⟩) (fun _ _=>rfl) q7o8
theorem q7o3:Qp L7o3 C7 ST7 b7o3 4 T7o3:=fun m w K=>by kernel_rfl
theorem o7o3:SumOk C7 KK (sumT T7o3 (L7o3 KK)) (.loop b7o3):=loop_ok T7o3 L7o3 (sums_of (t:=ST7) ⟨sum_out (by kernel_rfl),fun _ _ h=>absurd h (by decide),trivial⟩) (fun _ _=>rfl) q7o3
theorem r7:Rp (v7 (ta7 tu20 tu21 tu22 tu23 tu24)) C7 ST7 Tryz.f7 (sig 7) c7 A7:=fun w=>by kernel_rfl
theorem ok7:OkS sig (Gd G dep (dep 7)) 7 th7:=okM (v:=v7) r7 Tryz.func7 rfl ⟨sum_in (c':=.loop b7o8) (by kernel_rfl) (o7o8),sum_in (c':=.loop b7o3) (by kernel_rfl) (o7o3),trivial⟩ te7 ue7
def C63:=mkC 63
def c63:=gc Tryz.f63
def ST63:LT:=[]
theorem r63:Rp (v63 (ta63 tu7 tu21)) C63 ST63 Tryz.f63 (sig 63) c63 A63:=fun w=>by kernel_rfl
theorem ok63:OkS sig (Gd G dep (dep 63)) 63 th63:=okM (v:=v63) r63 Tryz.func63 rfl trivial te63 ue63
def C31:=mkC 31
def c31:=gc Tryz.f31
def ST31:LT:=[]
theorem r31:Rp (v31 t31) C31 ST31 Tryz.f31 (sig 31) c31 A31:=fun w=>by kernel_rfl
theorem ok31:OkS sig (Gd G dep (dep 31)) 31 th31:=okM (v:=v31) r31 Tryz.func31 rfl trivial te31 ue31
def C37:=mkC 37
def c37:=gc Tryz.f37
def ST37:LT:=[]
theorem r37:Rp (v37 t37) C37 ST37 Tryz.f37 (sig 37) c37 A37:=fun w=>by kernel_rfl
theorem ok37:OkS sig (Gd G dep (dep 37)) 37 th37:=okM (v:=v37) r37 Tryz.func37 rfl trivial te37 ue37
def C60:=mkC 60
def c60:=gc Tryz.f60
def T60o2:TSt:=⟨[ag1,.ptr 64 0,.ptr 128 0,dI,dI,dI,dB,.any,.any,.any],[(64,bx10),bn1,(4105,.row 38 2),(4107,.row 3 1),(4108,.row 3 1),(4109,.row 3 1)]⟩
def X60o2e1:TSt:=⟨[ag1,.ptr 64 0,.ptr 128 0,dI,dI,dI,dB,dB,.any,.any],[(64,bx10),bn1,(4105,.row 38 2),(4107,.row 3 1),(4108,.row 3 1),(4109,.row 3 1)]⟩
def L60o2 (m:Nat) (w:List Vr) (K:KT):Rs:=la60o2 tu23 tu37 (vI w 0) (vI w 1) (vI w 2) (vI w 3) (vI w 4) (vI w 5) (vI w 6) (vI w 7) (vI w 8) (vI w 9) (vB w 12) (vI w 16) (vI w 17) (vI w 18) (vI w 19) (vI w 20) (vI w 21) (vI w 22) (vI w 23) (vI w 24) (vI w 25) (vI w 26) (vI w 27) (vI w 28) (vI w 29) (vI w 30) (vI w 31) (vI w 32) (vI w 33) (vL w 34) (vL w 35) (vL w 36) (vL w 37) (fun n319 n320 b321 v322 v323=>K (.exit 2) (fillS X60o2e1 [jI w 0,jI w 1,jI w 2,jI w 3,jI w 4,jI w 5,jI w 6,jI w 7,jI w 8,jI w 9,.i n319,.i n320,jB w 12,.b b321,.v v322,.v v323,jI w 16,jI w 17,jI w 18,jI w 19,jI w 20,jI w 21,jI w 22,jI w 23,jI w 24,jI w 25,jI w 26,jI w 27,jI w 28,jI w 29,jI w 30,jI w 31,jI w 32,jI w 33,jL w 34,jL w 35,jL w 36,jL w 37])) m (vI w 10) (vI w 11) (vV w 13) (vV w 14) (vV w 15)
def T60o0:TSt:=⟨[ag1,.ptr 64 0,.ptr 128 0,dI,.any,.any,.any,.any,.any,.any],[(64,bx10),bn1,(4105,.row 38 2),(4107,.row 3 1),(4108,.row 3 1),(4109,.row 3 1)]⟩
def X60o0e1:TSt:=⟨[ag1,.ptr 64 0,.ptr 128 0,dI,dI,dI,dB,dB,.any,dB],[(64,bx10),(128,bx10),(4105,.row 38 2),(4107,.row 3 1),(4108,.row 3 1),(4109,.row 3 1)]⟩
def X60o0e2:TSt:=⟨[ag1,.ptr 64 0,.ptr 128 0,dI,.any,.any,dB,.any,.any,.any],[(64,bx10),bn1,(4105,.row 38 2),(4107,.row 3 1),(4108,.row 3 1),(4109,.row 3 1)]⟩
def L60o0 (m:Nat) (w:List Vr) (K:KT):Rs:=la60o0 tu23 tu37 (vI w 0) (vI w 1) (vI w 2) (vI w 3) (vI w 4) (vI w 5) (vI w 6) (vI w 7) (vI w 8) (vI w 16) (vI w 17) (vI w 18) (vI w 19) (vI w 20) (vI w 21) (vI w 22) (vI w 23) (vI w 24) (vI w 25) (vI w 26) (vI w 27) (vI w 28) (vI w 29) (vI w 30) (vI w 31) (vI w 32) (vI w 33) (vL w 34) (vL w 35) (vL w 36) (vL w 37) (fun n367 n368 n369 b370 b371 v372 b373=>K .ret (fillS X60o0e1 [jI w 0,jI w 1,jI w 2,jI w 3,jI w 4,jI w 5,jI w 6,jI w 7,jI w 8,.i n367,.i n368,.i n369,.b b370,.b b371,.v v372,.b b373,jI w 16,jI w 17,jI w 18,jI w 19,jI w 20,jI w 21,jI w 22,jI w 23,.i n367,jI w 16,jI w 17,jI w 18,jI w 19,jI w 20,jI w 21,jI w 22,jI w 23,.i n367,jL w 34,jL w 35,jL w 36,jL w 37])) (fun n374 v375 v376 b377 v378 v379 v380=>K (.exit 0) (fillS X60o0e2 [jI w 0,jI w 1,jI w 2,jI w 3,jI w 4,jI w 5,jI w 6,jI w 7,jI w 8,.i n374,.v v375,.v v376,.b b377,.v v378,.v v379,.v v380,jI w 16,jI w 17,jI w 18,jI w 19,jI w 20,jI w 21,jI w 22,jI w 23,jI w 24,jI w 25,jI w 26,jI w 27,jI w 28,jI w 29,jI w 30,jI w 31,jI w 32,jI w 33,jL w 34,jL w 35,jL w 36,jL w 37])) m (vI w 9) (vV w 10) (vV w 11) (vV w 12) (vV w 13) (vV w 14) (vV w 15)
def ST60:LT:=[(2,sumT T60o2 (L60o2 KK)),(0,sumT T60o0 (L60o0 KK))]
def b60o2:=bd c60 2
def b60o0:=bd c60 0
theorem q60o2:Qp L60o2 C60 ST60 b60o2 3 T60o2:=fun m w K=>by kernel_rfl
theorem o60o2:SumOk C60 KK (sumT T60o2 (L60o2 KK)) (.loop b60o2):=loop_ok T60o2 L60o2 (sums_of (t:=ST60) ⟨fun _ _ h=>absurd h (by decide),fun _ _ h=>absurd h (by decide),trivial⟩) (fun _ _=>rfl) q60o2
theorem q60o0:Qp L60o0 C60 ST60 b60o0 1 T60o0:=fun m w K=>by kernel_rfl
theorem o60o0:SumOk C60 KK (sumT T60o0 (L60o0 KK)) (.loop b60o0):=loop_ok T60o0 L60o0 (sums_of (t:=ST60) ⟨sum_in (c':=.loop b60o2) (by kernel_rfl) (o60o2),fun _ _ h=>absurd h (by decide),trivial⟩) (fun _ _=>rfl) q60o0
theorem r60:Rp (v60 (ta60 tu23 tu37)) C60 ST60 Tryz.f60 (sig 60) c60 A60:=fun w=>by kernel_rfl
theorem ok60:OkS sig (Gd G dep (dep 60)) 60 th60:=okM (v:=v60) r60 Tryz.func60 rfl ⟨sum_in (c':=.loop b60o2) (by kernel_rfl) (o60o2),sum_in (c':=.loop b60o0) (by kernel_rfl) (o60o0),trivial⟩ te60 ue60
def C32:=mkC 32
def c32:=gc Tryz.f32
def ST32:LT:=[]
theorem r32:Rp (v32 (ta32 tu23 tu60)) C32 ST32 Tryz.f32 (sig 32) c32 A32:=fun w=>by kernel_rfl
theorem ok32:OkS sig (Gd G dep (dep 32)) 32 th32:=okM (v:=v32) r32 Tryz.func32 rfl trivial te32 ue32
def C61:=mkC 61
def c61:=gc Tryz.f61
def T61o1:TSt:=⟨[ag4,dI,.ptr 128 0,.ptr 256 0,dI,.ptr 384 0,dI,dB,.any],[(128,bx14),(256,bx1),(384,bx2),(24585,.row 38 2)]⟩
def X61o1e1:TSt:=⟨[ag4,dI,.ptr 128 0,.ptr 256 0,dI,.ptr 384 0,dI,dB,dB],[(128,bx14),(256,bx1),(384,bx2),(24585,.row 38 2)]⟩
def L61o1 (m:Nat) (w:List Vr) (K:KT):Rs:=la61o1 tu23 tu37 (vI w 0) (vI w 1) (vI w 2) (vI w 3) (vI w 4) (vI w 5) (vI w 6) (vI w 7) (vL w 8) (vI w 9) (vL w 10) (vL w 11) (vL w 12) (vI w 13) (vI w 14) (vB w 16) (vI w 18) (vI w 19) (vI w 20) (vI w 21) (vI w 22) (vI w 23) (vI w 24) (vI w 25) (vL w 26) (vI w 27) (vL w 28) (vL w 29) (vL w 30) (vI w 31) (vI w 32) (vI w 33) (vI w 34) (vI w 35) (vI w 36) (vI w 37) (vB w 38) (vS w 39) (vI w 40) (vI w 41) (vI w 42) (vI w 43) (vI w 44) (vI w 45) (vI w 46) (vB w 47) (vS w 48) (fun n164 b165 l166=>K (.exit 0) (fillS X61o1e1 [jI w 0,jI w 1,jI w 2,jI w 3,jI w 4,jI w 5,jI w 6,jI w 7,jL w 8,jI w 9,jL w 10,jL w 11,jL w 12,jI w 13,jI w 14,.i n164,jB w 16,.b b165,jI w 18,jI w 19,jI w 20,jI w 21,jI w 22,jI w 23,jI w 24,jI w 25,jL w 26,jI w 27,jL w 28,jL w 29,jL w 30,jI w 31,jI w 32,jI w 33,jI w 34,jI w 35,jI w 36,jI w 37,jB w 38,jS w 39,jI w 40,jI w 41,jI w 42,jI w 43,jI w 44,jI w 45,jI w 46,jB w 47,jS w 48,.l l166])) m (vI w 15) (vV w 17) (vL w 49)
def ST61:LT:=[(1,sumT T61o1 (L61o1 KK))]
def b61o1:=bd c61 1
theorem q61o1:Qp L61o1 C61 ST61 b61o1 2 T61o1:=fun m w K=>by kernel_rfl
theorem o61o1:SumOk C61 KK (sumT T61o1 (L61o1 KK)) (.loop b61o1):=loop_ok T61o1 L61o1 (sums_of (t:=ST61) ⟨fun _ _ h=>absurd h (by decide),trivial⟩) (fun _ _=>rfl) q61o1
theorem r61:Rp (v61 (ta61 tu23 tu37)) C61 ST61 Tryz.f61 (sig 61) c61 A61:=fun w=>by kernel_rfl
theorem ok61:OkS sig (Gd G dep (dep 61)) 61 th61:=okM (v:=v61) r61 Tryz.func61 rfl ⟨sum_in (c':=.loop b61o1) (by kernel_rfl) (o61o1),trivial⟩ te61 ue61
def C33:=mkC 33
def c33:=gc Tryz.f33
def T33o0:TSt:=⟨[ag4,.ptr 64 0,.nils,.own 320,dI,.any,.any],[bn4,(320,.row 29 10)]⟩
def X33o0e1:TSt:=⟨[ag4,.ptr 64 0,.nils,.own 320,dI,dB,.any],[bn4,(320,.row 29 10)]⟩
def L33o0 (m:Nat) (w:List Vr) (K:KT):Rs:=la33o0 tu61 (vI w 0) (vI w 1) (vI w 2) (vI w 3) (vI w 4) (vI w 5) (vI w 6) (vI w 7) (vL w 8) (vI w 9) (vL w 10) (vL w 11) (vL w 12) (vI w 16) (vI w 17) (vI w 18) (vI w 19) (vI w 20) (vI w 21) (vI w 22) (vI w 23) (vL w 24) (vI w 25) (vL w 26) (vL w 27) (vL w 28) (fun n104 b105 v106 l107=>K (.exit 0) (fillS X33o0e1 [jI w 0,jI w 1,jI w 2,jI w 3,jI w 4,jI w 5,jI w 6,jI w 7,jL w 8,jI w 9,jL w 10,jL w 11,jL w 12,.i n104,.b b105,.v v106,jI w 16,jI w 17,jI w 18,jI w 19,jI w 20,jI w 21,jI w 22,jI w 23,jL w 24,jI w 25,jL w 26,jL w 27,jL w 28,.l l107])) m (vI w 13) (vV w 14) (vV w 15) (vL w 29)
def ST33:LT:=[(0,sumT T33o0 (L33o0 KK))]
def b33o0:=bd c33 0
theorem q33o0:Qp L33o0 C33 ST33 b33o0 1 T33o0:=fun m w K=>by kernel_rfl
theorem o33o0:SumOk C33 KK (sumT T33o0 (L33o0 KK)) (.loop b33o0):=loop_ok T33o0 L33o0 (sums_of (t:=ST33) ⟨fun _ _ h=>absurd h (by decide),trivial⟩) (fun _ _=>rfl) q33o0
theorem r33:Rp (v33 (ta33 tu61)) C33 ST33 Tryz.f33 (sig 33) c33 A33:=fun w=>by kernel_rfl
theorem ok33:OkS sig (Gd G dep (dep 33)) 33 th33:=okM (v:=v33) r33 Tryz.func33 rfl ⟨sum_in (c':=.loop b33o0) (by kernel_rfl) (o33o0),trivial⟩ te33 ue33
def C83:=mkC 83
def c83:=gc Tryz.f83
def T83o0:TSt:=⟨[ag1,.ptr 64 0,.ptr 128 0,.nils,dI,.any],[(64,bx11),bn1,(576,.row 3 1),(704,.row 3 1),(832,.row 3 1),(4105,.row 38 2),(4107,.row 3 1),(4108,.row 3 1),(4109,.row 3 1)]⟩
def X83o0e1:TSt:=⟨[ag1,.ptr 64 0,.ptr 128 0,.nils,dI,dB],[(64,bx11),bn1,(576,.row 3 1),(704,.row 3 1),(832,.row 3 1),(4105,.row 38 2),(4107,.row 3 1),(4108,.row 3 1),(4109,.row 3 1)]⟩
def L83o0 (m:Nat) (w:List Vr) (K:KT):Rs:=la83o0 tu23 tu32 tu33 (vI w 0) (vI w 1) (vI w 2) (vI w 3) (vI w 4) (vI w 5) (vI w 6) (vI w 7) (vI w 8) (vI w 11) (vI w 12) (vI w 13) (vI w 14) (vI w 15) (vI w 16) (vI w 17) (vI w 18) (vI w 19) (vI w 20) (vI w 21) (vI w 22) (vI w 23) (vI w 24) (vI w 25) (vI w 26) (vI w 27) (vI w 28) (vL w 29) (vL w 32) (vL w 33) (vL w 34) (vL w 35) (fun n121 b122 l123 l124=>K (.exit 0) (fillS X83o0e1 [jI w 0,jI w 1,jI w 2,jI w 3,jI w 4,jI w 5,jI w 6,jI w 7,jI w 8,.i n121,.b b122,jI w 11,jI w 12,jI w 13,jI w 14,jI w 15,jI w 16,jI w 17,jI w 18,jI w 19,jI w 20,jI w 21,jI w 22,jI w 23,jI w 24,jI w 25,jI w 26,jI w 27,jI w 28,jL w 29,.l l123,.l l124,jL w 32,jL w 33,jL w 34,jL w 35])) m (vI w 9) (vV w 10) (vL w 30) (vL w 31)
def ST83:LT:=[(0,sumT T83o0 (L83o0 KK))]
def b83o0:=bd c83 0
theorem q83o0:Qp L83o0 C83 ST83 b83o0 1 T83o0:=fun m w K=>by kernel_rfl
theorem o83o0:SumOk C83 KK (sumT T83o0 (L83o0 KK)) (.loop b83o0):=loop_ok T83o0 L83o0 (sums_of (t:=ST83) ⟨fun _ _ h=>absurd h (by decide),trivial⟩) (fun _ _=>rfl) q83o0
theorem r83:Rp (v83 (ta83 tu23 tu32 tu33)) C83 ST83 Tryz.f83 (sig 83) c83 A83:=fun w=>by kernel_rfl
theorem ok83:OkS sig (Gd G dep (dep 83)) 83 th83:=okM (v:=v83) r83 Tryz.func83 rfl ⟨sum_in (c':=.loop b83o0) (by kernel_rfl) (o83o0),trivial⟩ te83 ue83
def C76:=mkC 76
def c76:=gc Tryz.f76
def T76o3:TSt:=⟨[ag4,.ptr 64 0,.ptr 128 0,.nils,.own 512,.undef,.undef,dI,dB,dB,dB,.any,.any],[(64,bx9),bn1,(512,.row 29 10),(2368,.row 3 1),(4105,.row 38 2),(4107,.row 3 1),(4108,.row 3 1),(4109,.row 3 1)]⟩
def X76o3e1:TSt:=⟨[ag4,.ptr 64 0,.ptr 128 0,.nils,.own 512,.undef,.undef,dI,dB,dB,dB,dB,.any],[(64,bx9),bn1,(512,.row 29 10),(2368,.row 3 1),(4105,.row 38 2),(4107,.row 3 1),(4108,.row 3 1),(4109,.row 3 1)]⟩
def L76o3 (m:Nat) (w:List Vr) (K:KT):Rs:=la76o3 tu7 tu23 tu31 tu37 tu83 (vI w 0) (vI w 1) (vI w 2) (vI w 3) (vI w 4) (vI w 5) (vI w 6) (vI w 7) (vL w 8) (vI w 9) (vL w 10) (vL w 11) (vL w 12) (vB w 14) (vB w 15) (vB w 16) (vI w 19) (vI w 20) (vI w 21) (vI w 22) (vI w 23) (vI w 24) (vI w 25) (vI w 26) (vI w 27) (vI w 28) (vI w 29) (vI w 30) (vI w 31) (vI w 32) (vI w 33) (vI w 34) (vI w 35) (vI w 36) (vL w 38) (vL w 39) (vL w 40) (vL w 41) (vL w 42) (fun n143 b144 v145 l146=>K (.exit 0) (fillS X76o3e1 [jI w 0,jI w 1,jI w 2,jI w 3,jI w 4,jI w 5,jI w 6,jI w 7,jL w 8,jI w 9,jL w 10,jL w 11,jL w 12,.i n143,jB w 14,jB w 15,jB w 16,.b b144,.v v145,jI w 19,jI w 20,jI w 21,jI w 22,jI w 23,jI w 24,jI w 25,jI w 26,jI w 27,jI w 28,jI w 29,jI w 30,jI w 31,jI w 32,jI w 33,jI w 34,jI w 35,jI w 36,.l l146,jL w 38,jL w 39,jL w 40,jL w 41,jL w 42])) m (vI w 13) (vV w 17) (vV w 18) (vL w 37)
def ST76:LT:=[(3,sumT T76o3 (L76o3 KK))]
def b76o3:=bd c76 3
theorem q76o3:Qp L76o3 C76 ST76 b76o3 4 T76o3:=fun m w K=>by kernel_rfl
theorem o76o3:SumOk C76 KK (sumT T76o3 (L76o3 KK)) (.loop b76o3):=loop_ok T76o3 L76o3 (sums_of (t:=ST76) ⟨fun _ _ h=>absurd h (by decide),trivial⟩) (fun _ _=>rfl) q76o3
theorem r76:Rp (v76 (ta76 tu7 tu23 tu31 tu37 tu83)) C76 ST76 Tryz.f76 (sig 76) c76 A76:=fun w=>by kernel_rfl
theorem ok76:OkS sig (Gd G dep (dep 76)) 76 th76:=okM (v:=v76) r76 Tryz.func76 rfl ⟨sum_in (c':=.loop b76o3) (by kernel_rfl) (o76o3),trivial⟩ te76 ue76
def C12:=mkC 12
def c12:=gc Tryz.f12
def ST12:LT:=[]
theorem r12:Rp (v12 (ta12 tu7 tu23 tu31 tu32 tu33)) C12 ST12 Tryz.f12 (sig 12) c12 A12:=fun w=>by kernel_rfl
theorem ok12:OkS sig (Gd G dep (dep 12)) 12 th12:=okM (v:=v12) r12 Tryz.func12 rfl trivial te12 ue12
def C77:=mkC 77
def c77:=gc Tryz.f77
def ST77:LT:=[]
theorem r77:Rp (v77 (ta77 tu7 tu31 tu37)) C77 ST77 Tryz.f77 (sig 77) c77 A77:=fun w=>by kernel_rfl
theorem ok77:OkS sig (Gd G dep (dep 77)) 77 th77:=okM (v:=v77) r77 Tryz.func77 rfl trivial te77 ue77
def C102:=mkC 102
def c102:=gc Tryz.f102
def ST102:LT:=[]
theorem r102:Rp (v102 (ta102 tu20)) C102 ST102 Tryz.f102 (sig 102) c102 A102:=fun w=>by kernel_rfl
theorem ok102:OkS sig (Gd G dep (dep 102)) 102 th102:=okM (v:=v102) r102 Tryz.func102 rfl trivial te102 ue102
def C103:=mkC 103
def c103:=gc Tryz.f103
def T103o1:TSt:=⟨[dL,dI,dI,dB,dI,dB,.any,.any],[]⟩
def X103o1e1:TSt:=⟨[dL,dI,dI,dB,dI,dB,dB,dB],[]⟩
def X103o1e2:TSt:=⟨[dL,dI,dI,dB,dI,dB,dB,.any],[]⟩
def L103o1 (m:Nat) (w:List Vr) (K:KT):Rs:=la103o1 tu20 (vL w 0) (vI w 2) (vB w 3) (vB w 5) (fun n27 n28 b29 b30=>K .ret (fillS X103o1e1 [jL w 0,.i n27,jI w 2,.b (false),.i n28,jB w 5,.b b29,.b b30])) (fun n31 n32 b33 v34=>K (.exit 0) (fillS X103o1e2 [jL w 0,.i n31,jI w 2,jB w 3,.i n32,jB w 5,.b b33,.v v34])) m (vI w 1) (vI w 4) (vV w 6) (vV w 7)
def ST103:LT:=[(1,sumT T103o1 (L103o1 KK))]
def b103o1:=bd c103 1
theorem q103o1:Qp L103o1 C103 ST103 b103o1 2 T103o1:=fun m w K=>by kernel_rfl
theorem o103o1:SumOk C103 KK (sumT T103o1 (L103o1 KK)) (.loop b103o1):=loop_ok T103o1 L103o1 (sums_of (t:=ST103) ⟨fun _ _ h=>absurd h (by decide),trivial⟩) (fun _ _=>rfl) q103o1
theorem r103:Rp (v103 (ta103 tu20)) C103 ST103 Tryz.f103 (sig 103) c103 A103:=fun w=>by kernel_rfl
theorem ok103:OkS sig (Gd G dep (dep 103)) 103 th103:=okM (v:=v103) r103 Tryz.func103 rfl ⟨sum_in (c':=.loop b103o1) (by kernel_rfl) (o103o1),trivial⟩ te103 ue103
def C112:=mkC 112
def c112:=gc Tryz.f112
def T112o1:TSt:=⟨[dL,dL,dB,dI,dB,.any,.any],[]⟩
def X112o1e1:TSt:=⟨[dL,dL,dB,dI,dB,dB,dB],[]⟩
def X112o1e2:TSt:=⟨[dL,dL,dB,dI,dB,dB,.any],[]⟩
def L112o1 (m:Nat) (w:List Vr) (K:KT):Rs:=l112o1 (vL w 0) (vL w 1) (vB w 2) (vB w 4) (fun n22 b23 b24=>K .ret (fillS X112o1e1 [jL w 0,jL w 1,.b (false),.i n22,jB w 4,.b b23,.b b24])) (fun n25 b26 v27=>K (.exit 0) (fillS X112o1e2 [jL w 0,jL w 1,jB w 2,.i n25,jB w 4,.b b26,.v v27])) m (vI w 3) (vV w 5) (vV w 6)
def ST112:LT:=[(1,sumT T112o1 (L112o1 KK))]
def b112o1:=bd c112 1
theorem q112o1:Qp L112o1 C112 ST112 b112o1 2 T112o1:=fun m w K=>by kernel_rfl
theorem o112o1:SumOk C112 KK (sumT T112o1 (L112o1 KK)) (.loop b112o1):=loop_ok T112o1 L112o1 (sums_of (t:=ST112) ⟨fun _ _ h=>absurd h (by decide),trivial⟩) (fun _ _=>rfl) q112o1
theorem r112:Rp (v112 t112) C112 ST112 Tryz.f112 (sig 112) c112 A112:=fun w=>by kernel_rfl
theorem ok112:OkS sig (Gd G dep (dep 112)) 112 th112:=okM (v:=v112) r112 Tryz.func112 rfl ⟨sum_in (c':=.loop b112o1) (by kernel_rfl) (o112o1),trivial⟩ te112 ue112
def C104:=mkC 104
def c104:=gc Tryz.f104
def ST104:LT:=[]
theorem r104:Rp (v104 (ta104 tu112)) C104 ST104 Tryz.f104 (sig 104) c104 A104:=fun w=>by kernel_rfl
theorem ok104:OkS sig (Gd G dep (dep 104)) 104 th104:=okM (v:=v104) r104 Tryz.func104 rfl trivial te104 ue104
def C84:=mkC 84
def c84:=gc Tryz.f84
def ST84:LT:=[]
theorem r84:Rp (v84 (ta84 tu20 tu39 tu102 tu103 tu104)) C84 ST84 Tryz.f84 (sig 84) c84 A84:=fun w=>by kernel_rfl
theorem ok84:OkS sig (Gd G dep (dep 84)) 84 th84:=okM (v:=v84) r84 Tryz.func84 rfl trivial te84 ue84
def C85:=mkC 85
def c85:=gc Tryz.f85
def ST85:LT:=[]
theorem r85:Rp (v85 t85) C85 ST85 Tryz.f85 (sig 85) c85 A85:=fun w=>by kernel_rfl
theorem ok85:OkS sig (Gd G dep (dep 85)) 85 th85:=okM (v:=v85) r85 Tryz.func85 rfl trivial te85 ue85
def C86:=mkC 86
def c86:=gc Tryz.f86
def ST86:LT:=[]
theorem r86:Rp (v86 (ta86 tu23 tu37)) C86 ST86 Tryz.f86 (sig 86) c86 A86:=fun w=>by kernel_rfl
theorem ok86:OkS sig (Gd G dep (dep 86)) 86 th86:=okM (v:=v86) r86 Tryz.func86 rfl trivial te86 ue86
def C87:=mkC 87
def c87:=gc Tryz.f87
def T87o1:TSt:=⟨[ag2,ag0,.ptr 128 0,.ptr 192 0,.ptr 256 0,.nils,.own 1280,dI,.undef,.undef,dB,.any,.any,.undef],[bn0,bn2,bn3,(1280,.row 3 1),(8201,.row 38 2),(8203,.row 3 1),(8204,.row 3 1),(8205,.row 3 1)]⟩
def X87o1e1:TSt:=⟨[ag2,ag0,.ptr 128 0,.ptr 192 0,.ptr 256 0,.nils,.own 1280,dI,.undef,.undef,dB,dB,.any,.undef],[bn0,bn2,bn3,(1280,.row 3 1),(8201,.row 38 2),(8203,.row 3 1),(8204,.row 3 1),(8205,.row 3 1)]⟩
def L87o1 (m:Nat) (w:List Vr) (K:KT):Rs:=la87o1 tu24 tu83 (vI w 0) (vI w 1) (vI w 2) (vI w 3) (vI w 4) (vI w 5) (vI w 6) (vI w 7) (vI w 8) (vI w 9) (vI w 10) (vI w 11) (vI w 12) (vI w 13) (vI w 14) (vI w 15) (vB w 16) (vL w 17) (vS w 18) (vB w 20) (vI w 23) (vI w 24) (vI w 25) (vI w 26) (vI w 27) (vI w 28) (vI w 29) (vI w 30) (vI w 31) (vI w 32) (vI w 33) (vI w 34) (vI w 35) (vI w 36) (vI w 37) (vI w 38) (vB w 39) (vL w 40) (vS w 41) (vI w 42) (vI w 43) (vI w 44) (vI w 45) (vI w 46) (vI w 47) (vI w 48) (vI w 49) (vI w 50) (vL w 52) (vL w 53) (vL w 54) (vL w 55) (fun n192 b193 v194 l195=>K (.exit 0) (fillS X87o1e1 [jI w 0,jI w 1,jI w 2,jI w 3,jI w 4,jI w 5,jI w 6,jI w 7,jI w 8,jI w 9,jI w 10,jI w 11,jI w 12,jI w 13,jI w 14,jI w 15,jB w 16,jL w 17,jS w 18,.i n192,jB w 20,.b b193,.v v194,jI w 23,jI w 24,jI w 25,jI w 26,jI w 27,jI w 28,jI w 29,jI w 30,jI w 31,jI w 32,jI w 33,jI w 34,jI w 35,jI w 36,jI w 37,jI w 38,jB w 39,jL w 40,jS w 41,jI w 42,jI w 43,jI w 44,jI w 45,jI w 46,jI w 47,jI w 48,jI w 49,jI w 50,.l l195,jL w 52,jL w 53,jL w 54,jL w 55])) m (vI w 19) (vV w 21) (vV w 22) (vL w 51)
def ST87:LT:=[(1,sumT T87o1 (L87o1 KK))]
def b87o1:=bd c87 1
theorem q87o1:Qp L87o1 C87 ST87 b87o1 2 T87o1:=fun m w K=>by kernel_rfl
theorem o87o1:SumOk C87 KK (sumT T87o1 (L87o1 KK)) (.loop b87o1):=loop_ok T87o1 L87o1 (sums_of (t:=ST87) ⟨fun _ _ h=>absurd h (by decide),trivial⟩) (fun _ _=>rfl) q87o1
theorem r87:Rp (v87 (ta87 tu24 tu83)) C87 ST87 Tryz.f87 (sig 87) c87 A87:=fun w=>by kernel_rfl
theorem ok87:OkS sig (Gd G dep (dep 87)) 87 th87:=okM (v:=v87) r87 Tryz.func87 rfl ⟨sum_in (c':=.loop b87o1) (by kernel_rfl) (o87o1),trivial⟩ te87 ue87
def C105:=mkC 105
def c105:=gc Tryz.f105
def ST105:LT:=[]
theorem r105:Rp (v105 t105) C105 ST105 Tryz.f105 (sig 105) c105 A105:=fun w=>by kernel_rfl
theorem ok105:OkS sig (Gd G dep (dep 105)) 105 th105:=okM (v:=v105) r105 Tryz.func105 rfl trivial te105 ue105
def C88:=mkC 88
def c88:=gc Tryz.f88
def T88o8:TSt:=⟨[ag3,ag0,.ptr 128 0,.ptr 192 0,.ptr 256 0,.nils,dL,dI,dI,.undef,dI,dI,.any,dB,dB,dB,dB,dB,dB,.undef,.any,.any,.any,.any,.any,.undef,.undef,.undef],[bn0,bn2,bn3,(8201,.row 38 2),(8203,.row 3 1),(8204,.row 3 1),(8205,.row 3 1)]⟩
def X88o8e1:TSt:=⟨[ag3,ag0,.ptr 128 0,.ptr 192 0,.ptr 256 0,.own 9280,dL,dI,dI,.undef,dI,dI,dI,dB,dB,dB,dB,dB,dB,.undef,dB,dB,dB,.any,.any,.undef,.undef,.undef],[bn0,bn2,(256,bx12),(8201,.row 38 2),(8203,.row 3 1),(8204,.row 3 1),(8205,.row 3 1),(9280,.row 29 10)]⟩
def X88o8e2:TSt:=⟨[ag3,ag0,.ptr 128 0,.ptr 192 0,.ptr 256 0,.nils,dL,dI,dI,.undef,dI,dI,dI,dB,dB,dB,dB,dB,dB,.undef,dB,dB,dB,dB,dB,.undef,.undef,.undef],[bn0,bn2,bn3,(8201,.row 38 2),(8203,.row 3 1),(8204,.row 3 1),(8205,.row 3 1)]⟩
def X88o8e3:TSt:=⟨[ag3,ag0,.ptr 128 0,.ptr 192 0,.ptr 256 0,.nils,dL,dI,dI,.undef,dI,dI,.any,dB,dB,dB,dB,dB,dB,.undef,dB,.any,.any,.any,.any,.undef,.undef,.undef],[bn0,bn2,bn3,(8201,.row 38 2),(8203,.row 3 1),(8204,.row 3 1),(8205,.row 3 1)]⟩
def L88o8 (m:Nat) (w:List Vr) (K:KT):Rs:=la88o8 tu23 tu37 tu85 tu105 (vI w 0) (vI w 1) (vI w 2) (vI w 3) (vI w 4) (vI w 5) (vI w 6) (vI w 7) (vI w 8) (vI w 9) (vI w 10) (vI w 11) (vI w 12) (vI w 13) (vI w 14) (vI w 15) (vB w 16) (vL w 17) (vS w 18) (vL w 19) (vI w 20) (vI w 21) (vB w 25) (vB w 26) (vB w 27) (vB w 28) (vB w 29) (vB w 30) (vI w 36) (vI w 37) (vI w 38) (vI w 39) (vI w 40) (vI w 41) (vI w 42) (vI w 43) (vI w 44) (vI w 45) (vI w 46) (vI w 47) (vI w 48) (vI w 49) (vI w 50) (vI w 51) (vB w 52) (vL w 53) (vS w 54) (vI w 55) (vI w 56) (vI w 57) (vI w 58) (vI w 59) (vI w 60) (vI w 61) (vI w 62) (vI w 63) (vL w 65) (vL w 66) (vL w 67) (fun n483 n484 n485 b486 b487 b488 v489 v490 l491 l492=>K .ret (fillS X88o8e1 [jI w 0,jI w 1,jI w 2,jI w 3,jI w 4,jI w 5,jI w 6,jI w 7,jI w 8,jI w 9,jI w 10,jI w 11,jI w 12,jI w 13,jI w 14,jI w 15,jB w 16,jL w 17,jS w 18,jL w 19,jI w 20,jI w 21,.i n483,.i n484,.i n485,jB w 25,jB w 26,jB w 27,jB w 28,jB w 29,jB w 30,.b b486,.b b487,.b b488,.v v489,.v v490,jI w 36,jI w 37,jI w 38,jI w 39,jI w 40,jI w 41,jI w 42,jI w 43,jI w 44,jI w 45,jI w 46,jI w 47,jI w 48,jI w 49,jI w 50,jI w 51,jB w 52,jL w 53,jS w 54,jI w 36,jI w 37,jI w 38,jI w 39,jI w 40,jI w 41,jI w 42,jI w 43,jI w 44,.l l491,jL w 65,jL w 66,jL w 67,.l l492])) (fun n493 n494 n495 b496 b497 b498 b499 b500 l501=>K (.exit 2) (fillS X88o8e2 [jI w 0,jI w 1,jI w 2,jI w 3,jI w 4,jI w 5,jI w 6,jI w 7,jI w 8,jI w 9,jI w 10,jI w 11,jI w 12,jI w 13,jI w 14,jI w 15,jB w 16,jL w 17,jS w 18,jL w 19,jI w 20,jI w 21,.i n493,.i n494,.i n495,jB w 25,jB w 26,jB w 27,jB w 28,jB w 29,jB w 30,.b b496,.b b497,.b b498,.b b499,.b b500,jI w 36,jI w 37,jI w 38,jI w 39,jI w 40,jI w 41,jI w 42,jI w 43,jI w 44,jI w 45,jI w 46,jI w 47,jI w 48,jI w 49,jI w 50,jI w 51,jB w 52,jL w 53,jS w 54,jI w 55,jI w 56,jI w 57,jI w 58,jI w 59,jI w 60,jI w 61,jI w 62,jI w 63,.l l501,jL w 65,jL w 66,jL w 67])) (fun n502 n503 v504 b505 v506 v507 v508 v509 l510=>K (.exit 2) (fillS X88o8e3 [jI w 0,jI w 1,jI w 2,jI w 3,jI w 4,jI w 5,jI w 6,jI w 7,jI w 8,jI w 9,jI w 10,jI w 11,jI w 12,jI w 13,jI w 14,jI w 15,jB w 16,jL w 17,jS w 18,jL w 19,jI w 20,jI w 21,.i n502,.i n503,.v v504,jB w 25,jB w 26,jB w 27,jB w 28,jB w 29,jB w 30,.b b505,.v v506,.v v507,.v v508,.v v509,jI w 36,jI w 37,jI w 38,jI w 39,jI w 40,jI w 41,jI w 42,jI w 43,jI w 44,jI w 45,jI w 46,jI w 47,jI w 48,jI w 49,jI w 50,jI w 51,jB w 52,jL w 53,jS w 54,jI w 55,jI w 56,jI w 57,jI w 58,jI w 59,jI w 60,jI w 61,jI w 62,jI w 63,.l l510,jL w 65,jL w 66,jL w 67])) m (vI w 22) (vI w 23) (vV w 24) (vV w 31) (vV w 32) (vV w 33) (vV w 34) (vV w 35) (vL w 64)
def T88o100008:TSt:=⟨[ag3,ag0,.ptr 128 0,.ptr 192 0,.ptr 256 0,.nils,dL,dI,.undef,.undef,dI,dI,.any,dB,dB,.undef,dB,dB,dB,.undef,.any,.any,.any,.any,.any,.undef,.undef,.undef],[bn0,bn2,bn3,(8201,.row 38 2),(8203,.row 3 1),(8204,.row 3 1),(8205,.row 3 1)]⟩
def X88o100008e1:TSt:=⟨[ag3,ag0,.ptr 128 0,.ptr 192 0,.ptr 256 0,.own 9280,dL,dI,.undef,.undef,dI,dI,dI,dB,dB,.undef,dB,dB,dB,.undef,dB,dB,dB,.any,.any,.undef,.undef,.undef],[bn0,bn2,(256,bx12),(8201,.row 38 2),(8203,.row 3 1),(8204,.row 3 1),(8205,.row 3 1),(9280,.row 29 10)]⟩
def X88o100008e2:TSt:=⟨[ag3,ag0,.ptr 128 0,.ptr 192 0,.ptr 256 0,.nils,dL,dI,.undef,.undef,dI,dI,dI,dB,dB,.undef,dB,dB,dB,.undef,dB,dB,dB,dB,dB,.undef,.undef,.undef],[bn0,bn2,bn3,(8201,.row 38 2),(8203,.row 3 1),(8204,.row 3 1),(8205,.row 3 1)]⟩
def X88o100008e3:TSt:=⟨[ag3,ag0,.ptr 128 0,.ptr 192 0,.ptr 256 0,.nils,dL,dI,.undef,.undef,dI,dI,.any,dB,dB,.undef,dB,dB,dB,.undef,dB,.any,.any,.any,.any,.undef,.undef,.undef],[bn0,bn2,bn3,(8201,.row 38 2),(8203,.row 3 1),(8204,.row 3 1),(8205,.row 3 1)]⟩
def L88o100008 (m:Nat) (w:List Vr) (K:KT):Rs:=la88o100008 tu23 tu37 tu85 tu105 (vI w 0) (vI w 1) (vI w 2) (vI w 3) (vI w 4) (vI w 5) (vI w 6) (vI w 7) (vI w 8) (vI w 9) (vI w 10) (vI w 11) (vI w 12) (vI w 13) (vI w 14) (vI w 15) (vB w 16) (vL w 17) (vS w 18) (vL w 19) (vI w 20) (vB w 24) (vB w 25) (vB w 26) (vB w 27) (vB w 28) (vI w 34) (vI w 35) (vI w 36) (vI w 37) (vI w 38) (vI w 39) (vI w 40) (vI w 41) (vI w 42) (vI w 43) (vI w 44) (vI w 45) (vI w 46) (vI w 47) (vI w 48) (vI w 49) (vB w 50) (vL w 51) (vS w 52) (vI w 53) (vI w 54) (vI w 55) (vI w 56) (vI w 57) (vI w 58) (vI w 59) (vI w 60) (vI w 61) (vL w 63) (vL w 64) (vL w 65) (fun n987 n988 n989 b990 b991 b992 v993 v994 l995 l996=>K .ret (fillS X88o100008e1 [jI w 0,jI w 1,jI w 2,jI w 3,jI w 4,jI w 5,jI w 6,jI w 7,jI w 8,jI w 9,jI w 10,jI w 11,jI w 12,jI w 13,jI w 14,jI w 15,jB w 16,jL w 17,jS w 18,jL w 19,jI w 20,.i n987,.i n988,.i n989,jB w 24,jB w 25,jB w 26,jB w 27,jB w 28,.b b990,.b b991,.b b992,.v v993,.v v994,jI w 34,jI w 35,jI w 36,jI w 37,jI w 38,jI w 39,jI w 40,jI w 41,jI w 42,jI w 43,jI w 44,jI w 45,jI w 46,jI w 47,jI w 48,jI w 49,jB w 50,jL w 51,jS w 52,jI w 34,jI w 35,jI w 36,jI w 37,jI w 38,jI w 39,jI w 40,jI w 41,jI w 42,.l l995,jL w 63,jL w 64,jL w 65,.l l996])) (fun n997 n998 n999 b1000 b1001 b1002 b1003 b1004 l1005=>K (.exit 2) (fillS X88o100008e2 [jI w 0,jI w 1,jI w 2,jI w 3,jI w 4,jI w 5,jI w 6,jI w 7,jI w 8,jI w 9,jI w 10,jI w 11,jI w 12,jI w 13,jI w 14,jI w 15,jB w 16,jL w 17,jS w 18,jL w 19,jI w 20,.i n997,.i n998,.i n999,jB w 24,jB w 25,jB w 26,jB w 27,jB w 28,.b b1000,.b b1001,.b b1002,.b b1003,.b b1004,jI w 34,jI w 35,jI w 36,jI w 37,jI w 38,jI w 39,jI w 40,jI w 41,jI w 42,jI w 43,jI w 44,jI w 45,jI w 46,jI w 47,jI w 48,jI w 49,jB w 50,jL w 51,jS w 52,jI w 53,jI w 54,jI w 55,jI w 56,jI w 57,jI w 58,jI w 59,jI w 60,jI w 61,.l l1005,jL w 63,jL w 64,jL w 65])) (fun n1006 n1007 v1008 b1009 v1010 v1011 v1012 v1013 l1014=>K (.exit 2) (fillS X88o100008e3 [jI w 0,jI w 1,jI w 2,jI w 3,jI w 4,jI w 5,jI w 6,jI w 7,jI w 8,jI w 9,jI w 10,jI w 11,jI w 12,jI w 13,jI w 14,jI w 15,jB w 16,jL w 17,jS w 18,jL w 19,jI w 20,.i n1006,.i n1007,.v v1008,jB w 24,jB w 25,jB w 26,jB w 27,jB w 28,.b b1009,.v v1010,.v v1011,.v v1012,.v v1013,jI w 34,jI w 35,jI w 36,jI w 37,jI w 38,jI w 39,jI w 40,jI w 41,jI w 42,jI w 43,jI w 44,jI w 45,jI w 46,jI w 47,jI w 48,jI w 49,jB w 50,jL w 51,jS w 52,jI w 53,jI w 54,jI w 55,jI w 56,jI w 57,jI w 58,jI w 59,jI w 60,jI w 61,.l l1014,jL w 63,jL w 64,jL w 65])) m (vI w 21) (vI w 22) (vV w 23) (vV w 29) (vV w 30) (vV w 31) (vV w 32) (vV w 33) (vL w 62)
def T88o6:TSt:=⟨[ag3,ag0,.ptr 128 0,.ptr 192 0,.ptr 256 0,.nils,dL,dI,dI,dI,.undef,.undef,.undef,dB,dB,dB,dB,dB,dB,.any,.undef,.undef,.undef,.undef,.undef,.undef,.undef,.undef],[bn0,bn2,bn3,(8201,.row 38 2),(8203,.row 3 1),(8204,.row 3 1),(8205,.row 3 1)]⟩
def X88o6e1:TSt:=⟨[ag3,ag0,.ptr 128 0,.ptr 192 0,.ptr 256 0,.nils,dL,dI,dI,dI,.undef,.undef,.undef,dB,dB,dB,dB,dB,dB,dB,.undef,.undef,.undef,.undef,.undef,.undef,.undef,.undef],[bn0,bn2,bn3,(8201,.row 38 2),(8203,.row 3 1),(8204,.row 3 1),(8205,.row 3 1)]⟩
def L88o6 (m:Nat) (w:List Vr) (K:KT):Rs:=la88o6 tu23 tu37 tu85 tu105 (vI w 0) (vI w 1) (vI w 2) (vI w 3) (vI w 4) (vI w 5) (vI w 6) (vI w 7) (vI w 8) (vI w 9) (vI w 10) (vI w 11) (vI w 12) (vI w 13) (vI w 14) (vI w 15) (vB w 16) (vL w 17) (vS w 18) (vL w 19) (vI w 21) (vI w 22) (vB w 23) (vB w 24) (vB w 25) (vB w 26) (vB w 27) (vB w 28) (vI w 30) (vI w 31) (vI w 32) (vI w 33) (vI w 34) (vI w 35) (vI w 36) (vI w 37) (vI w 38) (vI w 39) (vI w 40) (vI w 41) (vI w 42) (vI w 43) (vI w 44) (vI w 45) (vB w 46) (vL w 47) (vS w 48) (vI w 49) (vI w 50) (vI w 51) (vI w 52) (vI w 53) (vI w 54) (vI w 55) (vI w 56) (vI w 57) (vL w 58) (vL w 59) (vL w 60) (vL w 61) (fun n210 b211=>K (.exit 0) (fillS X88o6e1 [jI w 0,jI w 1,jI w 2,jI w 3,jI w 4,jI w 5,jI w 6,jI w 7,jI w 8,jI w 9,jI w 10,jI w 11,jI w 12,jI w 13,jI w 14,jI w 15,jB w 16,jL w 17,jS w 18,jL w 19,.i n210,jI w 21,jI w 22,jB w 23,jB w 24,jB w 25,jB w 26,jB w 27,jB w 28,.b b211,jI w 30,jI w 31,jI w 32,jI w 33,jI w 34,jI w 35,jI w 36,jI w 37,jI w 38,jI w 39,jI w 40,jI w 41,jI w 42,jI w 43,jI w 44,jI w 45,jB w 46,jL w 47,jS w 48,jI w 49,jI w 50,jI w 51,jI w 52,jI w 53,jI w 54,jI w 55,jI w 56,jI w 57,jL w 58,jL w 59,jL w 60,jL w 61])) m (vI w 20) (vV w 29)
def T88o100006:TSt:=⟨[ag3,ag0,.ptr 128 0,.ptr 192 0,.ptr 256 0,.nils,dL,dI,.undef,dI,.undef,.undef,.undef,dB,dB,.undef,dB,dB,dB,.any,.undef,.undef,.undef,.undef,.undef,.undef,.undef,.undef],[bn0,bn2,bn3,(8201,.row 38 2),(8203,.row 3 1),(8204,.row 3 1),(8205,.row 3 1)]⟩
def X88o100006e1:TSt:=⟨[ag3,ag0,.ptr 128 0,.ptr 192 0,.ptr 256 0,.nils,dL,dI,.undef,dI,.undef,.undef,.undef,dB,dB,.undef,dB,dB,dB,dB,.undef,.undef,.undef,.undef,.undef,.undef,.undef,.undef],[bn0,bn2,bn3,(8201,.row 38 2),(8203,.row 3 1),(8204,.row 3 1),(8205,.row 3 1)]⟩
def L88o100006 (m:Nat) (w:List Vr) (K:KT):Rs:=la88o100006 tu23 tu37 tu85 tu105 (vI w 0) (vI w 1) (vI w 2) (vI w 3) (vI w 4) (vI w 5) (vI w 6) (vI w 7) (vI w 8) (vI w 9) (vI w 10) (vI w 11) (vI w 12) (vI w 13) (vI w 14) (vI w 15) (vB w 16) (vL w 17) (vS w 18) (vL w 19) (vI w 21) (vB w 22) (vB w 23) (vB w 24) (vB w 25) (vB w 26) (vI w 28) (vI w 29) (vI w 30) (vI w 31) (vI w 32) (vI w 33) (vI w 34) (vI w 35) (vI w 36) (vI w 37) (vI w 38) (vI w 39) (vI w 40) (vI w 41) (vI w 42) (vI w 43) (vB w 44) (vL w 45) (vS w 46) (vI w 47) (vI w 48) (vI w 49) (vI w 50) (vI w 51) (vI w 52) (vI w 53) (vI w 54) (vI w 55) (vL w 56) (vL w 57) (vL w 58) (vL w 59) (fun n722 b723=>K (.exit 0) (fillS X88o100006e1 [jI w 0,jI w 1,jI w 2,jI w 3,jI w 4,jI w 5,jI w 6,jI w 7,jI w 8,jI w 9,jI w 10,jI w 11,jI w 12,jI w 13,jI w 14,jI w 15,jB w 16,jL w 17,jS w 18,jL w 19,.i n722,jI w 21,jB w 22,jB w 23,jB w 24,jB w 25,jB w 26,.b b723,jI w 28,jI w 29,jI w 30,jI w 31,jI w 32,jI w 33,jI w 34,jI w 35,jI w 36,jI w 37,jI w 38,jI w 39,jI w 40,jI w 41,jI w 42,jI w 43,jB w 44,jL w 45,jS w 46,jI w 47,jI w 48,jI w 49,jI w 50,jI w 51,jI w 52,jI w 53,jI w 54,jI w 55,jL w 56,jL w 57,jL w 58,jL w 59])) m (vI w 20) (vV w 27)
def ST88:LT:=[(8,altS T88o8 (sumT T88o8 (L88o8 KK)) (sumT T88o100008 (L88o100008 KK))),(6,altS T88o6 (sumT T88o6 (L88o6 KK)) (sumT T88o100006 (L88o100006 KK)))]
def b88o8:=bd c88 8
def b88o6:=bd c88 6
theorem q88o8:Qp L88o8 C88 ST88 b88o8 9 T88o8:=fun m w K=>by kernel_rfl
theorem o88o8:SumOk C88 KK (sumT T88o8 (L88o8 KK)) (.loop b88o8):=loop_ok T88o8 L88o8 (sums_of (t:=ST88) ⟨fun _ _ h=>absurd h (by decide),fun _ _ h=>absurd h (by decide),trivial⟩) (fun _ _=>rfl) q88o8
theorem q88o100008:Qp L88o100008 C88 ST88 b88o8 9 T88o100008:=fun m w K=>by kernel_rfl
theorem o88o100008:SumOk C88 KK (sumT T88o100008 (L88o100008 KK)) (.loop b88o8):=loop_ok T88o100008 L88o100008 (sums_of (t:=ST88) ⟨fun _ _ h=>absurd h (by decide),fun _ _ h=>absurd h (by decide),trivial⟩) (fun _ _=>rfl) q88o100008
theorem q88o6:Qp L88o6 C88 ST88 b88o6 7 T88o6:=fun m w K=>by kernel_rfl
theorem o88o6:SumOk C88 KK (sumT T88o6 (L88o6 KK)) (.loop b88o6):=loop_ok T88o6 L88o6 (sums_of (t:=ST88) ⟨sum_out (by kernel_rfl),fun _ _ h=>absurd h (by decide),trivial⟩) (fun _ _=>rfl) q88o6
theorem q88o100006:Qp L88o100006 C88 ST88 b88o6 7 T88o100006:=fun m w K=>by kernel_rfl
theorem o88o100006:SumOk C88 KK (sumT T88o100006 (L88o100006 KK)) (.loop b88o6):=loop_ok T88o100006 L88o100006 (sums_of (t:=ST88) ⟨sum_out (by kernel_rfl),fun _ _ h=>absurd h (by decide),trivial⟩) (fun _ _=>rfl) q88o100006
theorem r88:Rp (v88 (ta88 tu23 tu37 tu85 tu105)) C88 ST88 Tryz.f88 (sig 88) c88 A88:=fun w=>by kernel_rfl
theorem ok88:OkS sig (Gd G dep (dep 88)) 88 th88:=okM (v:=v88) r88 Tryz.func88 rfl ⟨sum_in (c':=.loop b88o8) (by kernel_rfl) (alt_ok o88o8 (o88o100008)),sum_in (c':=.loop b88o6) (by kernel_rfl) (alt_ok o88o6 (o88o100006)),trivial⟩ te88 ue88
def C89:=mkC 89
def c89:=gc Tryz.f89
def ST89:LT:=[]
theorem r89:Rp (v89 (ta89 tu23 tu60 tu61)) C89 ST89 Tryz.f89 (sig 89) c89 A89:=fun w=>by kernel_rfl
theorem ok89:OkS sig (Gd G dep (dep 89)) 89 th89:=okM (v:=v89) r89 Tryz.func89 rfl trivial te89 ue89
def C90:=mkC 90
def c90:=gc Tryz.f90
def ST90:LT:=[]
theorem r90:Rp (v90 (ta90 tu23 tu37 tu85 tu105)) C90 ST90 Tryz.f90 (sig 90) c90 A90:=fun w=>by kernel_rfl
theorem ok90:OkS sig (Gd G dep (dep 90)) 90 th90:=okM (v:=v90) r90 Tryz.func90 rfl trivial te90 ue90
def C78:=mkC 78
def c78:=gc Tryz.f78
def ST78:LT:=[]
theorem r78:Rp (v78 (ta78 tu7 tu31 tu84 tu85 tu86 tu87 tu88 tu89 tu90)) C78 ST78 Tryz.f78 (sig 78) c78 A78:=fun w=>by kernel_rfl
theorem ok78:OkS sig (Gd G dep (dep 78)) 78 th78:=okM (v:=v78) r78 Tryz.func78 rfl trivial te78 ue78
def C36:=mkC 36
def c36:=gc Tryz.f36
def ST36:LT:=[]
theorem r36:Rp (v36 (ta36 tu17 tu28 tu29 tu38)) C36 ST36 Tryz.f36 (sig 36) c36 A36:=fun w=>by kernel_rfl
theorem ok36:OkS sig (Gd G dep (dep 36)) 36 th36:=okM (v:=v36) r36 Tryz.func36 rfl trivial te36 ue36
def C19:=mkC 19
def c19:=gc Tryz.f19
def ST19:LT:=[]
theorem r19:Rp (v19 (ta19 tu17 tu23 tu29 tu36 tu37 tu38)) C19 ST19 Tryz.f19 (sig 19) c19 A19:=fun w=>by kernel_rfl
theorem ok19:OkS sig (Gd G dep (dep 19)) 19 th19:=okM (v:=v19) r19 Tryz.func19 rfl trivial te19 ue19
def C64:=mkC 64
def c64:=gc Tryz.f64
def T64o5:TSt:=⟨[.ptr 0 0,.any,.ptr 192 0,.ptr 256 0,dI,dI,dB,dB,dB,dB,.any],[(0,bx0),(192,bx5),bn3,(12297,.row 38 2),(12299,.row 3 1),(12300,.row 3 1),(12301,.row 3 1)]⟩
def X64o5e1:TSt:=⟨[.ptr 0 0,.any,.ptr 192 0,.ptr 256 0,dI,dI,dB,dB,dB,dB,dB],[(0,bx0),(192,bx5),bn3,(12297,.row 38 2),(12299,.row 3 1),(12300,.row 3 1),(12301,.row 3 1)]⟩
def L64o5 (m:Nat) (w:List Vr) (K:KT):Rs:=la64o5 tu12 tu19 tu28 tu29 tu76 tu77 tu78 (vI w 2) (vB w 3) (vB w 4) (vB w 5) (vB w 6) (vL w 8) (vI w 9) (vI w 10) (vI w 20) (vI w 21) (vI w 22) (vI w 23) (vI w 24) (vI w 25) (vI w 26) (vI w 27) (vI w 28) (fun v124 n125 b126 n127 n128 n129 n130 n131 n132 n133 n134 n135 l136 l137 l138 l139=>K (.exit 1) (fillS X64o5e1 [.v v124,.i n125,jI w 2,jB w 3,jB w 4,jB w 5,jB w 6,.b b126,jL w 8,jI w 9,jI w 10,.i n127,.i n128,.i n129,.i n130,.i n131,.i n132,.i n133,.i n134,.i n135,jI w 20,jI w 21,jI w 22,jI w 23,jI w 24,jI w 25,jI w 26,jI w 27,jI w 28,.l l136,.l l137,.l l138,.l l139])) m (vV w 0) (vI w 1) (vV w 7) (vI w 11) (vI w 12) (vI w 13) (vI w 14) (vI w 15) (vI w 16) (vI w 17) (vI w 18) (vI w 19) (vL w 29) (vL w 30) (vL w 31) (vL w 32)
def ST64:LT:=[(5,sumT T64o5 (L64o5 KK))]
def b64o5:=bd c64 5
theorem q64o5:Qp L64o5 C64 ST64 b64o5 6 T64o5:=fun m w K=>by kernel_rfl
theorem o64o5:SumOk C64 KK (sumT T64o5 (L64o5 KK)) (.loop b64o5):=loop_ok T64o5 L64o5 (sums_of (t:=ST64) ⟨fun _ _ h=>absurd h (by decide),trivial⟩) (fun _ _=>rfl) q64o5
theorem r64:Rp (v64 (ta64 tu12 tu19 tu28 tu29 tu76 tu77 tu78)) C64 ST64 Tryz.f64 (sig 64) c64 A64:=fun w=>by kernel_rfl
theorem ok64:OkS sig (Gd G dep (dep 64)) 64 th64:=okM (v:=v64) r64 Tryz.func64 rfl ⟨sum_in (c':=.loop b64o5) (by kernel_rfl) (o64o5),trivial⟩ te64 ue64
def C34:=mkC 34
def c34:=gc Tryz.f34
def T34o2:TSt:=⟨[.ptr 0 0,dI,.ptr 256 0,.ptr 320 0,dI,.ptr 448 0,dB,dI,dB,dB,.any],[(0,bx0),bn3,(320,.box [dI,dI,dI,dI,dS,.own 20486]),(448,bx7),(832,.row 3 1),(20486,.row 38 2),(28681,.row 38 2),(28683,.row 3 1),(28684,.row 3 1),(28685,.row 3 1)]⟩
def X34o2e1:TSt:=⟨[.ptr 0 0,dI,.ptr 256 0,.ptr 320 0,dI,.ptr 448 0,dB,dI,dB,dB,dB],[(0,bx0),bn3,(320,.box [dI,dI,dI,dI,dS,.own 20486]),(448,bx7),(832,.row 3 1),(20486,.row 38 2),(28681,.row 38 2),(28683,.row 3 1),(28684,.row 3 1),(28685,.row 3 1)]⟩
def L34o2 (m:Nat) (w:List Vr) (K:KT):Rs:=la34o2 tu29 tu35 tu62 tu63 tu64 (vI w 0) (vI w 1) (vB w 2) (vB w 4) (vB w 5) (vL w 7) (vI w 10) (vI w 11) (vI w 12) (vI w 13) (vI w 14) (vI w 15) (vI w 16) (vI w 17) (vI w 18) (vI w 19) (vI w 20) (vI w 21) (vI w 22) (vS w 23) (vL w 33) (vL w 34) (fun n135 b136 n137 n138 n139 n140 n141 n142 n143 n144 n145 n146 n147 l148 l149 l150 l151=>K (.exit 0) (fillS X34o2e1 [jI w 0,jI w 1,jB w 2,.i n135,jB w 4,jB w 5,.b b136,jL w 7,.i n137,.i n138,jI w 10,jI w 11,jI w 12,jI w 13,jI w 14,jI w 15,jI w 16,jI w 17,jI w 18,jI w 19,jI w 20,jI w 21,jI w 22,jS w 23,.i n139,.i n140,.i n141,.i n142,.i n143,.i n144,.i n145,.i n146,.i n147,jL w 33,jL w 34,.l l148,.l l149,.l l150,.l l151])) m (vI w 3) (vV w 6) (vI w 8) (vI w 9) (vI w 24) (vI w 25) (vI w 26) (vI w 27) (vI w 28) (vI w 29) (vI w 30) (vI w 31) (vI w 32) (vL w 35) (vL w 36) (vL w 37) (vL w 38)
def ST34:LT:=[(2,sumT T34o2 (L34o2 KK))]
def b34o2:=bd c34 2
theorem q34o2:Qp L34o2 C34 ST34 b34o2 3 T34o2:=fun m w K=>by kernel_rfl
theorem o34o2:SumOk C34 KK (sumT T34o2 (L34o2 KK)) (.loop b34o2):=loop_ok T34o2 L34o2 (sums_of (t:=ST34) ⟨fun _ _ h=>absurd h (by decide),trivial⟩) (fun _ _=>rfl) q34o2
theorem r34:Rp (v34 (ta34 tu29 tu35 tu62 tu63 tu64)) C34 ST34 Tryz.f34 (sig 34) c34 A34:=fun w=>by kernel_rfl
theorem ok34:OkS sig (Gd G dep (dep 34)) 34 th34:=okM (v:=v34) r34 Tryz.func34 rfl ⟨sum_in (c':=.loop b34o2) (by kernel_rfl) (o34o2),trivial⟩ te34 ue34
def C15:=mkC 15
def c15:=gc Tryz.f15
def ST15:LT:=[]
theorem r15:Rp (v15 (ta15 tu17 tu29 tu31 tu34 tu35)) C15 ST15 Tryz.f15 (sig 15) c15 A15:=fun w=>by kernel_rfl
theorem ok15:OkS sig (Gd G dep (dep 15)) 15 th15:=okM (v:=v15) r15 Tryz.func15 rfl trivial te15 ue15
def C10:=mkC 10
def c10:=gc Tryz.f10
def T10o1:TSt:=⟨[dL,.ptr 128 0,dS,.ptr 640 0,dS,dI,.own 1152,.undef,dB,.any],[bn1,(640,.box [dL,dI,dI]),(1152,.row 5 1)]⟩
def X10o1e1:TSt:=⟨[dL,.ptr 128 0,dS,.ptr 640 0,dS,dI,.own 1152,.undef,dB,dB],[bn1,(640,.box [dL,dI,dI]),(1152,.row 5 1)]⟩
def L10o1 (m:Nat) (w:List Vr) (K:KT):Rs:=la10o1 tu14 tu15 tu16 tu17 tu28 tu29 (vL w 0) (vS w 1) (vS w 2) (vI w 3) (vB w 4) (vI w 6) (vI w 7) (vI w 8) (vI w 9) (vI w 10) (vI w 11) (vI w 12) (vI w 13) (vI w 14) (vL w 15) (vI w 16) (vI w 17) (fun b58 l59=>K (.exit 0) (fillS X10o1e1 [jL w 0,jS w 1,jS w 2,jI w 3,jB w 4,.b b58,jI w 6,jI w 7,jI w 8,jI w 9,jI w 10,jI w 11,jI w 12,jI w 13,jI w 14,jL w 15,jI w 16,jI w 17,.l l59])) m (vV w 5) (vL w 18)
def ST10:LT:=[(1,sumT T10o1 (L10o1 KK))]
def b10o1:=bd c10 1
theorem q10o1:Qp L10o1 C10 ST10 b10o1 2 T10o1:=fun m w K=>by kernel_rfl
theorem o10o1:SumOk C10 KK (sumT T10o1 (L10o1 KK)) (.loop b10o1):=loop_ok T10o1 L10o1 (sums_of (t:=ST10) ⟨fun _ _ h=>absurd h (by decide),trivial⟩) (fun _ _=>rfl) q10o1
theorem r10:Rp (v10 (ta10 tu14 tu15 tu16 tu17 tu28 tu29)) C10 ST10 Tryz.f10 (sig 10) c10 A10:=fun w=>by kernel_rfl
theorem ok10:OkS sig (Gd G dep (dep 10)) 10 th10:=okM (v:=v10) r10 Tryz.func10 rfl ⟨sum_in (c':=.loop b10o1) (by kernel_rfl) (o10o1),trivial⟩ te10 ue10
def C40:=mkC 40
def c40:=gc Tryz.f40
def ST40:LT:=[]
theorem r40:Rp (v40 t40) C40 ST40 Tryz.f40 (sig 40) c40 A40:=fun w=>by kernel_rfl
theorem ok40:OkS sig (Gd G dep (dep 40)) 40 th40:=okM (v:=v40) r40 Tryz.func40 rfl trivial te40 ue40
def C42:=mkC 42
def c42:=gc Tryz.f42
def ST42:LT:=[]
theorem r42:Rp (v42 t42) C42 ST42 Tryz.f42 (sig 42) c42 A42:=fun w=>by kernel_rfl
theorem ok42:OkS sig (Gd G dep (dep 42)) 42 th42:=okM (v:=v42) r42 Tryz.func42 rfl trivial te42 ue42
def C41:=mkC 41
def c41:=gc Tryz.f41
def T41o2:TSt:=⟨[ag5,.ptr 64 0,dB,dI,.undef,dB,dB,dL,dI,dI,.any,.any],[(64,bx15)]⟩
def X41o2e1:TSt:=⟨[ag5,.ptr 64 0,dB,dI,.ptr 320 0,dB,dB,dL,dI,dI,dB,dB],[(64,bx15),(320,.box [dI,dS])]⟩
def X41o2e2:TSt:=⟨[ag5,.ptr 64 0,dB,dI,.undef,dB,dB,dL,dI,dI,dB,.any],[(64,bx15)]⟩
def L41o2 (m:Nat) (w:List Vr) (K:KT):Rs:=la41o2 tu40 (vI w 0) (vI w 1) (vI w 2) (vI w 3) (vS w 4) (vL w 5) (vB w 6) (vB w 8) (vB w 9) (vL w 10) (vI w 11) (vI w 15) (vI w 16) (vI w 17) (vI w 18) (vS w 19) (vL w 20) (fun n68 n69 b70 b71 n72 s73=>K .ret (fillS X41o2e1 [jI w 0,jI w 1,jI w 2,jI w 3,jS w 4,jL w 5,.b (false),.i n68,jB w 8,jB w 9,jL w 10,jI w 11,.i n69,.b b70,.b b71,jI w 15,jI w 16,jI w 17,jI w 18,jS w 19,jL w 20,.i n72,.s s73])) (fun n74 n75 b76 v77=>K (.exit 0) (fillS X41o2e2 [jI w 0,jI w 1,jI w 2,jI w 3,jS w 4,jL w 5,jB w 6,.i n74,jB w 8,jB w 9,jL w 10,jI w 11,.i n75,.b b76,.v v77,jI w 15,jI w 16,jI w 17,jI w 18,jS w 19,jL w 20])) m (vI w 7) (vI w 12) (vV w 13) (vV w 14)
def ST41:LT:=[(2,sumT T41o2 (L41o2 KK))]
def b41o2:=bd c41 2
theorem q41o2:Qp L41o2 C41 ST41 b41o2 3 T41o2:=fun m w K=>by kernel_rfl
theorem o41o2:SumOk C41 KK (sumT T41o2 (L41o2 KK)) (.loop b41o2):=loop_ok T41o2 L41o2 (sums_of (t:=ST41) ⟨fun _ _ h=>absurd h (by decide),trivial⟩) (fun _ _=>rfl) q41o2
theorem r41:Rp (v41 (ta41 tu40)) C41 ST41 Tryz.f41 (sig 41) c41 A41:=fun w=>by kernel_rfl
theorem ok41:OkS sig (Gd G dep (dep 41)) 41 th41:=okM (v:=v41) r41 Tryz.func41 rfl ⟨sum_in (c':=.loop b41o2) (by kernel_rfl) (o41o2),trivial⟩ te41 ue41
def C43:=mkC 43
def c43:=gc Tryz.f43
def ST43:LT:=[]
theorem r43:Rp (v43 t43) C43 ST43 Tryz.f43 (sig 43) c43 A43:=fun w=>by kernel_rfl
theorem ok43:OkS sig (Gd G dep (dep 43)) 43 th43:=okM (v:=v43) r43 Tryz.func43 rfl trivial te43 ue43
def C79:=mkC 79
def c79:=gc Tryz.f79
def T79o0:TSt:=⟨[dL,dI,dI,.any,dI,dI,.any,.any],[]⟩
def X79o0e1:TSt:=⟨[dL,dI,dI,dI,dI,dI,dB,dB],[]⟩
def X79o0e2:TSt:=⟨[dL,dI,dI,.any,dI,dI,dB,.any],[]⟩
def L79o0 (m:Nat) (w:List Vr) (K:KT):Rs:=l79o0 (vL w 0) (vI w 1) (vI w 2) (vI w 4) (fun n24 b25 b26=>K .ret (fillS X79o0e1 [jL w 0,jI w 1,.i n24,.i n24,jI w 4,.i n24,.b b25,.b b26])) (fun v27 n28 b29 v30=>K (.exit 0) (fillS X79o0e2 [jL w 0,jI w 1,jI w 2,.v v27,jI w 4,.i n28,.b b29,.v v30])) m (vV w 3) (vI w 5) (vV w 6) (vV w 7)
def ST79:LT:=[(0,sumT T79o0 (L79o0 KK))]
def b79o0:=bd c79 0
theorem q79o0:Qp L79o0 C79 ST79 b79o0 1 T79o0:=fun m w K=>by kernel_rfl
theorem o79o0:SumOk C79 KK (sumT T79o0 (L79o0 KK)) (.loop b79o0):=loop_ok T79o0 L79o0 (sums_of (t:=ST79) ⟨fun _ _ h=>absurd h (by decide),trivial⟩) (fun _ _=>rfl) q79o0
theorem r79:Rp (v79 t79) C79 ST79 Tryz.f79 (sig 79) c79 A79:=fun w=>by kernel_rfl
theorem ok79:OkS sig (Gd G dep (dep 79)) 79 th79:=okM (v:=v79) r79 Tryz.func79 rfl ⟨sum_in (c':=.loop b79o0) (by kernel_rfl) (o79o0),trivial⟩ te79 ue79
def C65:=mkC 65
def c65:=gc Tryz.f65
def ST65:LT:=[]
theorem r65:Rp (v65 (ta65 tu79)) C65 ST65 Tryz.f65 (sig 65) c65 A65:=fun w=>by kernel_rfl
theorem ok65:OkS sig (Gd G dep (dep 65)) 65 th65:=okM (v:=v65) r65 Tryz.func65 rfl trivial te65 ue65
def C66:=mkC 66
def c66:=gc Tryz.f66
def ST66:LT:=[]
theorem r66:Rp (v66 t66) C66 ST66 Tryz.f66 (sig 66) c66 A66:=fun w=>by kernel_rfl
theorem ok66:OkS sig (Gd G dep (dep 66)) 66 th66:=okM (v:=v66) r66 Tryz.func66 rfl trivial te66 ue66
def C44:=mkC 44
def c44:=gc Tryz.f44
def T44o0:TSt:=⟨[.pv [.i .i64,.i .i64,.i .i64,.i .i64,.i .i64,.i .i64,.i .i64,.i .i64,.l,.i .i64,.l,.l,.l] 0,dB,.any,.any,dL,dI,dI,.any,.any],[]⟩
def X44o0e1:TSt:=⟨[.pv [.i .i64,.i .i64,.i .i64,.i .i64,.i .i64,.i .i64,.i .i64,.i .i64,.l,.i .i64,.l,.l,.l] 0,dB,dI,dI,dL,dI,dI,dB,dB],[]⟩
def X44o0e2:TSt:=⟨[.pv [.i .i64,.i .i64,.i .i64,.i .i64,.i .i64,.i .i64,.i .i64,.i .i64,.l,.i .i64,.l,.l,.l] 0,dB,.any,.any,dL,dI,dI,dB,.any],[]⟩
def L44o0 (m:Nat) (w:List Vr) (K:KT):Rs:=la44o0 tu40 tu65 tu66 (vI w 0) (vI w 1) (vI w 2) (vI w 3) (vI w 4) (vI w 5) (vI w 6) (vI w 7) (vL w 8) (vI w 9) (vL w 10) (vL w 11) (vL w 12) (vB w 13) (vL w 16) (vI w 17) (fun n73 n74 b75 b76=>K .ret (fillS X44o0e1 [jI w 0,jI w 1,jI w 2,jI w 3,jI w 4,jI w 5,jI w 6,jI w 7,jL w 8,jI w 9,jL w 10,jL w 11,jL w 12,.b (false),.i n73,.i n74,jL w 16,jI w 17,.i n73,.b b75,.b b76])) (fun v77 v78 n79 b80 v81=>K (.exit 0) (fillS X44o0e2 [jI w 0,jI w 1,jI w 2,jI w 3,jI w 4,jI w 5,jI w 6,jI w 7,jL w 8,jI w 9,jL w 10,jL w 11,jL w 12,jB w 13,.v v77,.v v78,jL w 16,jI w 17,.i n79,.b b80,.v v81])) m (vV w 14) (vV w 15) (vI w 18) (vV w 19) (vV w 20)
def ST44:LT:=[(0,sumT T44o0 (L44o0 KK))]
def b44o0:=bd c44 0
theorem q44o0:Qp L44o0 C44 ST44 b44o0 1 T44o0:=fun m w K=>by kernel_rfl
theorem o44o0:SumOk C44 KK (sumT T44o0 (L44o0 KK)) (.loop b44o0):=loop_ok T44o0 L44o0 (sums_of (t:=ST44) ⟨fun _ _ h=>absurd h (by decide),trivial⟩) (fun _ _=>rfl) q44o0
theorem r44:Rp (v44 (ta44 tu40 tu65 tu66)) C44 ST44 Tryz.f44 (sig 44) c44 A44:=fun w=>by kernel_rfl
theorem ok44:OkS sig (Gd G dep (dep 44)) 44 th44:=okM (v:=v44) r44 Tryz.func44 rfl ⟨sum_in (c':=.loop b44o0) (by kernel_rfl) (o44o0),trivial⟩ te44 ue44
def C45:=mkC 45
def c45:=gc Tryz.f45
def T45o1:TSt:=⟨[.pv [.i .i64,.i .i64,.i .i64,.i .i64,.i .i64,.i .i64,.i .i64,.i .i64,.l,.i .i64,.l,.l,.l] 0,dB,.any,.any,dB,dL,dI,dI,.any,.any],[]⟩
def X45o1e1:TSt:=⟨[.pv [.i .i64,.i .i64,.i .i64,.i .i64,.i .i64,.i .i64,.i .i64,.i .i64,.l,.i .i64,.l,.l,.l] 0,dB,dI,dI,dB,dL,dI,dI,dB,dB],[]⟩
def X45o1e2:TSt:=⟨[.pv [.i .i64,.i .i64,.i .i64,.i .i64,.i .i64,.i .i64,.i .i64,.i .i64,.l,.i .i64,.l,.l,.l] 0,dB,.any,.any,dB,dL,dI,dI,dB,.any],[]⟩
def L45o1 (m:Nat) (w:List Vr) (K:KT):Rs:=la45o1 tu43 (vI w 0) (vI w 1) (vI w 2) (vI w 3) (vI w 4) (vI w 5) (vI w 6) (vI w 7) (vL w 8) (vI w 9) (vL w 10) (vL w 11) (vL w 12) (vB w 13) (vB w 16) (vL w 17) (vI w 18) (fun n76 n77 b78 b79=>K .ret (fillS X45o1e1 [jI w 0,jI w 1,jI w 2,jI w 3,jI w 4,jI w 5,jI w 6,jI w 7,jL w 8,jI w 9,jL w 10,jL w 11,jL w 12,.b (false),.i n76,.i n77,jB w 16,jL w 17,jI w 18,.i n76,.b b78,.b b79])) (fun v80 v81 n82 b83 v84=>K (.exit 0) (fillS X45o1e2 [jI w 0,jI w 1,jI w 2,jI w 3,jI w 4,jI w 5,jI w 6,jI w 7,jL w 8,jI w 9,jL w 10,jL w 11,jL w 12,jB w 13,.v v80,.v v81,jB w 16,jL w 17,jI w 18,.i n82,.b b83,.v v84])) m (vV w 14) (vV w 15) (vI w 19) (vV w 20) (vV w 21)
def ST45:LT:=[(1,sumT T45o1 (L45o1 KK))]
def b45o1:=bd c45 1
theorem q45o1:Qp L45o1 C45 ST45 b45o1 2 T45o1:=fun m w K=>by kernel_rfl
theorem o45o1:SumOk C45 KK (sumT T45o1 (L45o1 KK)) (.loop b45o1):=loop_ok T45o1 L45o1 (sums_of (t:=ST45) ⟨fun _ _ h=>absurd h (by decide),trivial⟩) (fun _ _=>rfl) q45o1
theorem r45:Rp (v45 (ta45 tu43)) C45 ST45 Tryz.f45 (sig 45) c45 A45:=fun w=>by kernel_rfl
theorem ok45:OkS sig (Gd G dep (dep 45)) 45 th45:=okM (v:=v45) r45 Tryz.func45 rfl ⟨sum_in (c':=.loop b45o1) (by kernel_rfl) (o45o1),trivial⟩ te45 ue45
def C25:=mkC 25
def c25:=gc Tryz.f25
def ST25:LT:=[]
theorem r25:Rp (v25 (ta25 tu40 tu41 tu42 tu43 tu44 tu45)) C25 ST25 Tryz.f25 (sig 25) c25 A25:=fun w=>by kernel_rfl
theorem ok25:OkS sig (Gd G dep (dep 25)) 25 th25:=okM (v:=v25) r25 Tryz.func25 rfl trivial te25 ue25
def C46:=mkC 46
def c46:=gc Tryz.f46
def ST46:LT:=[]
theorem r46:Rp (v46 t46) C46 ST46 Tryz.f46 (sig 46) c46 A46:=fun w=>by kernel_rfl
theorem ok46:OkS sig (Gd G dep (dep 46)) 46 th46:=okM (v:=v46) r46 Tryz.func46 rfl trivial te46 ue46
def C26:=mkC 26
def c26:=gc Tryz.f26
def ST26:LT:=[]
theorem r26:Rp (v26 (ta26 tu46)) C26 ST26 Tryz.f26 (sig 26) c26 A26:=fun w=>by kernel_rfl
theorem ok26:OkS sig (Gd G dep (dep 26)) 26 th26:=okM (v:=v26) r26 Tryz.func26 rfl trivial te26 ue26
def C56:=mkC 56
def c56:=gc Tryz.f56
def ST56:LT:=[]
theorem r56:Rp (v56 (ta56 tu43)) C56 ST56 Tryz.f56 (sig 56) c56 A56:=fun w=>by kernel_rfl
theorem ok56:OkS sig (Gd G dep (dep 56)) 56 th56:=okM (v:=v56) r56 Tryz.func56 rfl trivial te56 ue56
def C57:=mkC 57
def c57:=gc Tryz.f57
def ST57:LT:=[]
theorem r57:Rp (v57 (ta57 tu43)) C57 ST57 Tryz.f57 (sig 57) c57 A57:=fun w=>by kernel_rfl
theorem ok57:OkS sig (Gd G dep (dep 57)) 57 th57:=okM (v:=v57) r57 Tryz.func57 rfl trivial te57 ue57
def C70:=mkC 70
def c70:=gc Tryz.f70
def ST70:LT:=[]
theorem r70:Rp (v70 t70) C70 ST70 Tryz.f70 (sig 70) c70 A70:=fun w=>by kernel_rfl
theorem ok70:OkS sig (Gd G dep (dep 70)) 70 th70:=okM (v:=v70) r70 Tryz.func70 rfl trivial te70 ue70
def C58:=mkC 58
def c58:=gc Tryz.f58
def T58o2:TSt:=⟨[.ptr 0 0,dI,dI,.any,dB,.own 13,dI,dI,.any,.any,.any],[(0,bx13),(9,.row 38 2),(11,.row 3 1),(12,.row 3 1),(13,.row 3 1)]⟩
def X58o2e1:TSt:=⟨[.ptr 0 0,dI,dI,.any,dB,.own 13,dI,dI,dB,.any,.any],[(0,bx13),(9,.row 38 2),(11,.row 3 1),(12,.row 3 1),(13,.row 3 1)]⟩
def L58o2 (m:Nat) (w:List Vr) (K:KT):Rs:=la58o2 tu43 tu66 tu70 (vI w 0) (vB w 3) (vI w 4) (vI w 9) (vI w 10) (vI w 11) (vI w 12) (vI w 13) (vI w 14) (vI w 15) (vI w 16) (vI w 17) (vL w 18) (vL w 19) (vL w 20) (vL w 21) (fun n191 v192 n193 b194 v195 v196=>K (.exit 2) (fillS X58o2e1 [jI w 0,.i n191,.v v192,jB w 3,jI w 4,.i n193,.b b194,.v v195,.v v196,jI w 9,jI w 10,jI w 11,jI w 12,jI w 13,jI w 14,jI w 15,jI w 16,jI w 17,jL w 18,jL w 19,jL w 20,jL w 21])) m (vI w 1) (vV w 2) (vI w 5) (vV w 6) (vV w 7) (vV w 8)
def T58o0:TSt:=⟨[.ptr 0 0,dI,.any,.any,.any,.any,.any,.any,.any,.any,.any],[(0,bx13),(9,.row 38 2),(11,.row 3 1),(12,.row 3 1),(13,.row 3 1)]⟩
def X58o0e1:TSt:=⟨[.ptr 0 0,dI,dI,.any,dB,.own 13,dI,dI,dB,.any,dB],[(0,bx13),(9,.row 38 2),(11,.row 3 1),(12,.row 3 1),(13,.row 3 1)]⟩
def X58o0e2:TSt:=⟨[.ptr 0 0,dI,.any,.any,dB,.any,.any,.any,.any,.any,.any],[(0,bx13),(9,.row 38 2),(11,.row 3 1),(12,.row 3 1),(13,.row 3 1)]⟩
def L58o0 (m:Nat) (w:List Vr) (K:KT):Rs:=la58o0 tu43 tu66 tu70 (vI w 10) (vI w 11) (vI w 12) (vI w 13) (vI w 14) (vI w 15) (vI w 16) (vI w 17) (vI w 18) (vL w 19) (vL w 20) (vL w 21) (vL w 22) (fun n226 n227 v228 b229 n230 n231 b232 v233 b234=>K .ret (fillS X58o0e1 [.i n226,.i n227,.v v228,.b b229,.i n230,.i n231,.b b232,.v v233,.b b234,jI w 10,jI w 11,jI w 12,jI w 13,jI w 14,jI w 15,jI w 16,jI w 17,.i n226,jL w 19,jL w 20,jL w 21,jL w 22])) (fun n235 v236 v237 b238 v239 v240 v241 v242 v243 v244=>K (.exit 0) (fillS X58o0e2 [.i n235,.v v236,.v v237,.b b238,.v v239,.v v240,.v v241,.v v242,.v v243,.v v244,jI w 10,jI w 11,jI w 12,jI w 13,jI w 14,jI w 15,jI w 16,jI w 17,jI w 18,jL w 19,jL w 20,jL w 21,jL w 22])) m (vI w 0) (vV w 1) (vV w 2) (vV w 3) (vV w 4) (vV w 5) (vV w 6) (vV w 7) (vV w 8) (vV w 9)
def ST58:LT:=[(2,sumT T58o2 (L58o2 KK)),(0,sumT T58o0 (L58o0 KK))]
def b58o2:=bd c58 2
def b58o0:=bd c58 0
theorem q58o2:Qp L58o2 C58 ST58 b58o2 3 T58o2:=fun m w K=>by kernel_rfl
theorem o58o2:SumOk C58 KK (sumT T58o2 (L58o2 KK)) (.loop b58o2):=loop_ok T58o2 L58o2 (sums_of (t:=ST58) ⟨fun _ _ h=>absurd h (by decide),fun _ _ h=>absurd h (by decide),trivial⟩) (fun _ _=>rfl) q58o2
theorem q58o0:Qp L58o0 C58 ST58 b58o0 1 T58o0:=fun m w K=>by kernel_rfl
theorem o58o0:SumOk C58 KK (sumT T58o0 (L58o0 KK)) (.loop b58o0):=loop_ok T58o0 L58o0 (sums_of (t:=ST58) ⟨sum_in (c':=.loop b58o2) (by kernel_rfl) (o58o2),fun _ _ h=>absurd h (by decide),trivial⟩) (fun _ _=>rfl) q58o0
theorem r58:Rp (v58 (ta58 tu43 tu66 tu70)) C58 ST58 Tryz.f58 (sig 58) c58 A58:=fun w=>by kernel_rfl
theorem ok58:OkS sig (Gd G dep (dep 58)) 58 th58:=okM (v:=v58) r58 Tryz.func58 rfl ⟨sum_in (c':=.loop b58o2) (by kernel_rfl) (o58o2),sum_in (c':=.loop b58o0) (by kernel_rfl) (o58o0),trivial⟩ te58 ue58
def C75:=mkC 75
def c75:=gc Tryz.f75
def T75o0:TSt:=⟨[.pv [.i .i64,.i .i64,.i .i64,.i .i64,.i .i64,.i .i64,.i .i64,.i .i64,.l,.i .i64,.l,.l,.l] 0,.nils,.own 320,.any,dI,dI,.any,.any],[(320,.row 3 1)]⟩
def X75o0e1:TSt:=⟨[.pv [.i .i64,.i .i64,.i .i64,.i .i64,.i .i64,.i .i64,.i .i64,.i .i64,.l,.i .i64,.l,.l,.l] 0,.nils,.own 320,.any,dI,dI,dB,.any],[(320,.row 3 1)]⟩
def L75o0 (m:Nat) (w:List Vr) (K:KT):Rs:=l75o0 (vI w 0) (vI w 1) (vI w 2) (vI w 3) (vI w 4) (vI w 5) (vI w 6) (vI w 7) (vL w 8) (vI w 9) (vL w 10) (vL w 11) (vL w 12) (vI w 14) (fun v70 n71 b72 v73 l74=>K (.exit 0) (fillS X75o0e1 [jI w 0,jI w 1,jI w 2,jI w 3,jI w 4,jI w 5,jI w 6,jI w 7,jL w 8,jI w 9,jL w 10,jL w 11,jL w 12,.v v70,jI w 14,.i n71,.b b72,.v v73,.l l74])) m (vV w 13) (vI w 15) (vV w 16) (vV w 17) (vL w 18)
def ST75:LT:=[(0,sumT T75o0 (L75o0 KK))]
def b75o0:=bd c75 0
theorem q75o0:Qp L75o0 C75 ST75 b75o0 1 T75o0:=fun m w K=>by kernel_rfl
theorem o75o0:SumOk C75 KK (sumT T75o0 (L75o0 KK)) (.loop b75o0):=loop_ok T75o0 L75o0 (sums_of (t:=ST75) ⟨fun _ _ h=>absurd h (by decide),trivial⟩) (fun _ _=>rfl) q75o0
theorem r75:Rp (v75 t75) C75 ST75 Tryz.f75 (sig 75) c75 A75:=fun w=>by kernel_rfl
theorem ok75:OkS sig (Gd G dep (dep 75)) 75 th75:=okM (v:=v75) r75 Tryz.func75 rfl ⟨sum_in (c':=.loop b75o0) (by kernel_rfl) (o75o0),trivial⟩ te75 ue75
def C74:=mkC 74
def c74:=gc Tryz.f74
def ST74:LT:=[]
theorem r74:Rp (v74 (ta74 tu70)) C74 ST74 Tryz.f74 (sig 74) c74 A74:=fun w=>by kernel_rfl
theorem ok74:OkS sig (Gd G dep (dep 74)) 74 th74:=okM (v:=v74) r74 Tryz.func74 rfl trivial te74 ue74
def C59:=mkC 59
def c59:=gc Tryz.f59
def T59o0:TSt:=⟨[.pv [.i .i64,.i .i64,.i .i64,.i .i64,.i .i64,.i .i64,.i .i64,.i .i64,.l,.i .i64,.l,.l,.l] 0,.nils,.own 384,.any,.own 512,dI,dI,.any],[(384,.row 29 10),(512,.row 3 1)]⟩
def X59o0e1:TSt:=⟨[.pv [.i .i64,.i .i64,.i .i64,.i .i64,.i .i64,.i .i64,.i .i64,.i .i64,.l,.i .i64,.l,.l,.l] 0,.nils,.own 384,.any,.own 512,dI,dI,dB],[(384,.row 29 10),(512,.row 3 1)]⟩
def L59o0 (m:Nat) (w:List Vr) (K:KT):Rs:=la59o0 tu74 tu75 (vI w 0) (vI w 1) (vI w 2) (vI w 3) (vI w 4) (vI w 5) (vI w 6) (vI w 7) (vL w 8) (vI w 9) (vL w 10) (vL w 11) (vL w 12) (vI w 14) (vL w 18) (fun v69 n70 b71 l72=>K (.exit 0) (fillS X59o0e1 [jI w 0,jI w 1,jI w 2,jI w 3,jI w 4,jI w 5,jI w 6,jI w 7,jL w 8,jI w 9,jL w 10,jL w 11,jL w 12,.v v69,jI w 14,.i n70,.b b71,.l l72,jL w 18])) m (vV w 13) (vI w 15) (vV w 16) (vL w 17)
def ST59:LT:=[(0,sumT T59o0 (L59o0 KK))]
def b59o0:=bd c59 0
theorem q59o0:Qp L59o0 C59 ST59 b59o0 1 T59o0:=fun m w K=>by kernel_rfl
theorem o59o0:SumOk C59 KK (sumT T59o0 (L59o0 KK)) (.loop b59o0):=loop_ok T59o0 L59o0 (sums_of (t:=ST59) ⟨fun _ _ h=>absurd h (by decide),trivial⟩) (fun _ _=>rfl) q59o0
theorem r59:Rp (v59 (ta59 tu74 tu75)) C59 ST59 Tryz.f59 (sig 59) c59 A59:=fun w=>by kernel_rfl
theorem ok59:OkS sig (Gd G dep (dep 59)) 59 th59:=okM (v:=v59) r59 Tryz.func59 rfl ⟨sum_in (c':=.loop b59o0) (by kernel_rfl) (o59o0),trivial⟩ te59 ue59
def C30:=mkC 30
def c30:=gc Tryz.f30
def ST30:LT:=[]
theorem r30:Rp (v30 (ta30 tu43 tu56 tu57 tu58 tu59)) C30 ST30 Tryz.f30 (sig 30) c30 A30:=fun w=>by kernel_rfl
theorem ok30:OkS sig (Gd G dep (dep 30)) 30 th30:=okM (v:=v30) r30 Tryz.func30 rfl trivial te30 ue30
def C11:=mkC 11
def c11:=gc Tryz.f11
def ST11:LT:=[]
theorem r11:Rp (v11 (ta11 tu25 tu26 tu30)) C11 ST11 Tryz.f11 (sig 11) c11 A11:=fun w=>by kernel_rfl
theorem ok11:OkS sig (Gd G dep (dep 11)) 11 th11:=okM (v:=v11) r11 Tryz.func11 rfl trivial te11 ue11
def C13:=mkC 13
def c13:=gc Tryz.f13
def T13o1:TSt:=⟨[dL,dL,dB,dI,dB,.any,.any],[]⟩
def X13o1e1:TSt:=⟨[dL,dL,dB,dI,dB,dB,dB],[]⟩
def X13o1e2:TSt:=⟨[dL,dL,dB,dI,dB,dB,.any],[]⟩
def L13o1 (m:Nat) (w:List Vr) (K:KT):Rs:=l13o1 (vL w 0) (vL w 1) (vB w 2) (vB w 4) (fun n22 b23 b24=>K .ret (fillS X13o1e1 [jL w 0,jL w 1,.b (false),.i n22,jB w 4,.b b23,.b b24])) (fun n25 b26 v27=>K (.exit 0) (fillS X13o1e2 [jL w 0,jL w 1,jB w 2,.i n25,jB w 4,.b b26,.v v27])) m (vI w 3) (vV w 5) (vV w 6)
def ST13:LT:=[(1,sumT T13o1 (L13o1 KK))]
def b13o1:=bd c13 1
theorem q13o1:Qp L13o1 C13 ST13 b13o1 2 T13o1:=fun m w K=>by kernel_rfl
theorem o13o1:SumOk C13 KK (sumT T13o1 (L13o1 KK)) (.loop b13o1):=loop_ok T13o1 L13o1 (sums_of (t:=ST13) ⟨fun _ _ h=>absurd h (by decide),trivial⟩) (fun _ _=>rfl) q13o1
theorem r13:Rp (v13 t13) C13 ST13 Tryz.f13 (sig 13) c13 A13:=fun w=>by kernel_rfl
theorem ok13:OkS sig (Gd G dep (dep 13)) 13 th13:=okM (v:=v13) r13 Tryz.func13 rfl ⟨sum_in (c':=.loop b13o1) (by kernel_rfl) (o13o1),trivial⟩ te13 ue13
def C67:=mkC 67
def c67:=gc Tryz.f67
def ST67:LT:=[]
theorem r67:Rp (v67 (ta67 tu40)) C67 ST67 Tryz.f67 (sig 67) c67 A67:=fun w=>by kernel_rfl
theorem ok67:OkS sig (Gd G dep (dep 67)) 67 th67:=okM (v:=v67) r67 Tryz.func67 rfl trivial te67 ue67
def C68:=mkC 68
def c68:=gc Tryz.f68
def T68o0:TSt:=⟨[.pv [.i .i64,.i .i64,.i .i64,.i .i64,.i .i64,.i .i64,.i .i64,.b,.l,.s] 0,dB,dI,.undef,dL,dI,dI,.any,.any],[]⟩
def X68o0e1:TSt:=⟨[.pv [.i .i64,.i .i64,.i .i64,.i .i64,.i .i64,.i .i64,.i .i64,.b,.l,.s] 0,dB,dI,.ptr 320 0,dL,dI,dI,dB,dB],[(320,.box [dI,dS])]⟩
def X68o0e2:TSt:=⟨[.pv [.i .i64,.i .i64,.i .i64,.i .i64,.i .i64,.i .i64,.i .i64,.b,.l,.s] 0,dB,dI,.undef,dL,dI,dI,dB,.any],[]⟩
def L68o0 (m:Nat) (w:List Vr) (K:KT):Rs:=la68o0 tu40 (vI w 0) (vI w 1) (vI w 2) (vI w 3) (vI w 4) (vI w 5) (vI w 6) (vB w 7) (vL w 8) (vS w 9) (vB w 10) (vL w 12) (vI w 13) (fun n60 n61 b62 b63 n64 s65=>K .ret (fillS X68o0e1 [jI w 0,jI w 1,jI w 2,jI w 3,jI w 4,jI w 5,jI w 6,jB w 7,jL w 8,jS w 9,.b (false),.i n60,jL w 12,jI w 13,.i n61,.b b62,.b b63,.i n64,.s s65])) (fun n66 n67 b68 v69=>K (.exit 0) (fillS X68o0e2 [jI w 0,jI w 1,jI w 2,jI w 3,jI w 4,jI w 5,jI w 6,jB w 7,jL w 8,jS w 9,jB w 10,.i n66,jL w 12,jI w 13,.i n67,.b b68,.v v69])) m (vI w 11) (vI w 14) (vV w 15) (vV w 16)
def ST68:LT:=[(0,sumT T68o0 (L68o0 KK))]
def b68o0:=bd c68 0
theorem q68o0:Qp L68o0 C68 ST68 b68o0 1 T68o0:=fun m w K=>by kernel_rfl
theorem o68o0:SumOk C68 KK (sumT T68o0 (L68o0 KK)) (.loop b68o0):=loop_ok T68o0 L68o0 (sums_of (t:=ST68) ⟨fun _ _ h=>absurd h (by decide),trivial⟩) (fun _ _=>rfl) q68o0
theorem r68:Rp (v68 (ta68 tu40)) C68 ST68 Tryz.f68 (sig 68) c68 A68:=fun w=>by kernel_rfl
theorem ok68:OkS sig (Gd G dep (dep 68)) 68 th68:=okM (v:=v68) r68 Tryz.func68 rfl ⟨sum_in (c':=.loop b68o0) (by kernel_rfl) (o68o0),trivial⟩ te68 ue68
def C80:=mkC 80
def c80:=gc Tryz.f80
def T80o1:TSt:=⟨[dL,dL,dB,.any,dB,dI,dI,.any,.any],[]⟩
def X80o1e1:TSt:=⟨[dL,dL,dB,dI,dB,dI,dI,dB,dB],[]⟩
def X80o1e2:TSt:=⟨[dL,dL,dB,.any,dB,dI,dI,dB,.any],[]⟩
def L80o1 (m:Nat) (w:List Vr) (K:KT):Rs:=l80o1 (vL w 0) (vL w 1) (vB w 2) (vB w 4) (vI w 5) (fun n27 b28 b29=>K .ret (fillS X80o1e1 [jL w 0,jL w 1,.b (false),.i n27,jB w 4,jI w 5,.i n27,.b b28,.b b29])) (fun v30 n31 b32 v33=>K (.exit 0) (fillS X80o1e2 [jL w 0,jL w 1,jB w 2,.v v30,jB w 4,jI w 5,.i n31,.b b32,.v v33])) m (vV w 3) (vI w 6) (vV w 7) (vV w 8)
def ST80:LT:=[(1,sumT T80o1 (L80o1 KK))]
def b80o1:=bd c80 1
theorem q80o1:Qp L80o1 C80 ST80 b80o1 2 T80o1:=fun m w K=>by kernel_rfl
theorem o80o1:SumOk C80 KK (sumT T80o1 (L80o1 KK)) (.loop b80o1):=loop_ok T80o1 L80o1 (sums_of (t:=ST80) ⟨fun _ _ h=>absurd h (by decide),trivial⟩) (fun _ _=>rfl) q80o1
theorem r80:Rp (v80 t80) C80 ST80 Tryz.f80 (sig 80) c80 A80:=fun w=>by kernel_rfl
theorem ok80:OkS sig (Gd G dep (dep 80)) 80 th80:=okM (v:=v80) r80 Tryz.func80 rfl ⟨sum_in (c':=.loop b80o1) (by kernel_rfl) (o80o1),trivial⟩ te80 ue80
def C69:=mkC 69
def c69:=gc Tryz.f69
def ST69:LT:=[]
theorem r69:Rp (v69 (ta69 tu80)) C69 ST69 Tryz.f69 (sig 69) c69 A69:=fun w=>by kernel_rfl
theorem ok69:OkS sig (Gd G dep (dep 69)) 69 th69:=okM (v:=v69) r69 Tryz.func69 rfl trivial te69 ue69
def C47:=mkC 47
def c47:=gc Tryz.f47
def ST47:LT:=[]
theorem r47:Rp (v47 (ta47 tu40 tu67 tu68 tu69)) C47 ST47 Tryz.f47 (sig 47) c47 A47:=fun w=>by kernel_rfl
theorem ok47:OkS sig (Gd G dep (dep 47)) 47 th47:=okM (v:=v47) r47 Tryz.func47 rfl trivial te47 ue47
def C48:=mkC 48
def c48:=gc Tryz.f48
def ST48:LT:=[]
theorem r48:Rp (v48 t48) C48 ST48 Tryz.f48 (sig 48) c48 A48:=fun w=>by kernel_rfl
theorem ok48:OkS sig (Gd G dep (dep 48)) 48 th48:=okM (v:=v48) r48 Tryz.func48 rfl trivial te48 ue48
def C49:=mkC 49
def c49:=gc Tryz.f49
def ST49:LT:=[]
theorem r49:Rp (v49 t49) C49 ST49 Tryz.f49 (sig 49) c49 A49:=fun w=>by kernel_rfl
theorem ok49:OkS sig (Gd G dep (dep 49)) 49 th49:=okM (v:=v49) r49 Tryz.func49 rfl trivial te49 ue49
theorem hk50:∀xs q,opt (th50 xs)=some q→False:=hole (fun w=>by unfold v50;rw [ue50];rfl)
theorem hk51:∀xs q,opt (th51 xs)=some q→False:=hole (fun w=>by unfold v51;rw [ue51];rfl)
theorem hk52:∀xs q,opt (th52 xs)=some q→False:=hole (fun w=>by unfold v52;rw [ue52];rfl)
def C53:=mkC 53
def c53:=gc Tryz.f53
def ST53:LT:=[]
theorem r53:Rp (v53 (ta53 tu43 tu58 tu74)) C53 ST53 Tryz.f53 (sig 53) c53 A53:=fun w=>by kernel_rfl
theorem ok53:OkS sig (Gd G dep (dep 53)) 53 th53:=okM (v:=v53) r53 Tryz.func53 rfl trivial te53 ue53
theorem hk54:∀xs q,opt (th54 xs)=some q→False:=hole (fun w=>by unfold v54;rw [ue54];rfl)
def C27:=mkC 27
def c27:=gc Tryz.f27
def ST27:LT:=[]
theorem r27:Rp (v27 (ta27 tu47 tu48 tu49 tu50 tu51 tu52 tu53 tu54)) C27 ST27 Tryz.f27 (sig 27) c27 A27:=fun w=>by kernel_rfl
theorem ok27:OkS sig (Gd G dep (dep 27)) 27 th27:=okM (v:=v27) r27 Tryz.func27 rfl trivial te27 ue27
def C9:=mkC 9
def c9:=gc Tryz.f9
def ST9:LT:=[]
theorem r9:Rp (v9 (ta9 tu25 tu26 tu27)) C9 ST9 Tryz.f9 (sig 9) c9 A9:=fun w=>by kernel_rfl
theorem ok9:OkS sig (Gd G dep (dep 9)) 9 th9:=okM (v:=v9) r9 Tryz.func9 rfl trivial te9 ue9
def C4:=mkC 4
def c4:=gc Tryz.f4
def T4o5:TSt:=⟨[dL,dB,.ptr 192 0,dS,.ptr 320 0,.own 1485,dI,.own 1933,dI,dI,dI,dB,dB,dB,dB,dB,.any,.any,.any],[(192,bx5),(320,bx6),(512,bx8),(1485,.row 29 10),(1933,.row 29 10),(12297,.row 38 2),(12299,.row 3 1),(12300,.row 3 1),(12301,.row 3 1),(20489,.row 38 2),(20491,.row 3 1),(20492,.row 3 1),(20493,.row 3 1),(32777,.row 38 2),(32779,.row 3 1),(32780,.row 3 1),(32781,.row 3 1)]⟩
def X4o5e1:TSt:=⟨[dL,dB,.ptr 192 0,dS,.ptr 320 0,.own 1485,dI,.own 1933,dI,dI,dI,dB,dB,dB,dB,dB,dB,dB,dB],[(192,bx5),(320,bx6),(512,bx8),(1485,.row 29 10),(1933,.row 29 10),(12297,.row 38 2),(12299,.row 3 1),(12300,.row 3 1),(12301,.row 3 1),(20489,.row 38 2),(20491,.row 3 1),(20492,.row 3 1),(20493,.row 3 1),(32777,.row 38 2),(32779,.row 3 1),(32780,.row 3 1),(32781,.row 3 1)]⟩
def X4o5e2:TSt:=⟨[dL,dB,.ptr 192 0,dS,.ptr 320 0,.own 1485,dI,.own 1933,dI,dI,dI,dB,dB,dB,dB,dB,dB,.any,.any],[(192,bx5),(320,bx6),(512,bx8),(1485,.row 29 10),(1933,.row 29 10),(12297,.row 38 2),(12299,.row 3 1),(12300,.row 3 1),(12301,.row 3 1),(20489,.row 38 2),(20491,.row 3 1),(20492,.row 3 1),(20493,.row 3 1),(32777,.row 38 2),(32779,.row 3 1),(32780,.row 3 1),(32781,.row 3 1)]⟩
def L4o5 (m:Nat) (w:List Vr) (K:KT):Rs:=la4o5 tu5 tu9 tu10 tu11 tu12 tu13 (vL w 0) (vB w 1) (vS w 2) (vI w 3) (vI w 4) (vB w 7) (vB w 8) (vB w 9) (vB w 10) (vB w 11) (vI w 15) (vI w 16) (vI w 17) (vI w 18) (vI w 19) (vI w 20) (vI w 21) (vI w 22) (vI w 23) (vI w 33) (vI w 34) (vI w 35) (vI w 36) (vI w 37) (vI w 38) (vI w 39) (vI w 40) (vI w 41) (vL w 42) (vL w 43) (vL w 44) (vL w 45) (vL w 46) (vL w 47) (vL w 52) (vL w 53) (vL w 54) (vL w 55) (fun n223 n224 b225 b226 b227 n228 n229 n230 n231 n232 n233 n234 n235 n236 l237 l238 l239 l240=>K .ret (fillS X4o5e1 [jL w 0,.b (false),jS w 2,jI w 3,jI w 4,.i n223,.i n224,jB w 7,jB w 8,jB w 9,jB w 10,jB w 11,.b b225,.b b226,.b b227,jI w 15,jI w 16,jI w 17,jI w 18,jI w 19,jI w 20,jI w 21,jI w 22,jI w 23,.i n228,.i n229,.i n230,.i n231,.i n232,.i n233,.i n234,.i n235,.i n236,jI w 33,jI w 34,jI w 35,jI w 36,jI w 37,jI w 38,jI w 39,jI w 40,jI w 41,jL w 42,jL w 43,jL w 44,jL w 45,jL w 46,jL w 47,.l l237,.l l238,.l l239,.l l240,jL w 52,jL w 53,jL w 54,jL w 55])) (fun n241 n242 b243 v244 v245 n246 n247 n248 n249 n250 n251 n252 n253 n254 l255 l256 l257 l258=>K (.exit 0) (fillS X4o5e2 [jL w 0,jB w 1,jS w 2,jI w 3,jI w 4,.i n241,.i n242,jB w 7,jB w 8,jB w 9,jB w 10,jB w 11,.b b243,.v v244,.v v245,jI w 15,jI w 16,jI w 17,jI w 18,jI w 19,jI w 20,jI w 21,jI w 22,jI w 23,.i n246,.i n247,.i n248,.i n249,.i n250,.i n251,.i n252,.i n253,.i n254,jI w 33,jI w 34,jI w 35,jI w 36,jI w 37,jI w 38,jI w 39,jI w 40,jI w 41,jL w 42,jL w 43,jL w 44,jL w 45,jL w 46,jL w 47,.l l255,.l l256,.l l257,.l l258,jL w 52,jL w 53,jL w 54,jL w 55])) m (vI w 5) (vI w 6) (vV w 12) (vV w 13) (vV w 14) (vI w 24) (vI w 25) (vI w 26) (vI w 27) (vI w 28) (vI w 29) (vI w 30) (vI w 31) (vI w 32) (vL w 48) (vL w 49) (vL w 50) (vL w 51)
def ST4:LT:=[(5,sumT T4o5 (L4o5 KK))]
def b4o5:=bd c4 5
theorem q4o5:Qp L4o5 C4 ST4 b4o5 6 T4o5:=fun m w K=>by kernel_rfl
theorem o4o5:SumOk C4 KK (sumT T4o5 (L4o5 KK)) (.loop b4o5):=loop_ok T4o5 L4o5 (sums_of (t:=ST4) ⟨fun _ _ h=>absurd h (by decide),trivial⟩) (fun _ _=>rfl) q4o5
theorem r4:Rp (v4 (ta4 tu5 tu9 tu10 tu11 tu12 tu13)) C4 ST4 Tryz.f4 (sig 4) c4 A4:=fun w=>by kernel_rfl
theorem ok4:OkS sig (Gd G dep (dep 4)) 4 th4:=okM (v:=v4) r4 Tryz.func4 rfl ⟨sum_in (c':=.loop b4o5) (by kernel_rfl) (o4o5),trivial⟩ te4 ue4
theorem fn_ok:∀f∈[5,14,55,29,28,17,16,38,62,35,20,39,21,22,23,24,7,63,31,37,60,32,61,33,83,76,12,77,102,103,112,104,84,85,86,87,105,88,89,90,78,36,19,64,34,15,10,40,42,41,43,79,65,66,44,45,25,46,26,56,57,70,58,75,74,59,30,11,13,67,68,80,69,47,48,49,53,27,9,4],FnOk Tryz.prog sig f:=fun f h=>fnOk_of (List.all_eq_true.1 (show [5,14,55,29,28,17,16,38,62,35,20,39,21,22,23,24,7,63,31,37,60,32,61,33,83,76,12,77,102,103,112,104,84,85,86,87,105,88,89,90,78,36,19,64,34,15,10,40,42,41,43,79,65,66,44,45,25,46,26,56,57,70,58,75,74,59,30,11,13,67,68,80,69,47,48,49,53,27,9,4].all (fnOkB Tryz.prog sig)=true by kernel_rfl) f h)
theorem ak {f:Nat} {th:List DV→Bool × List DV × List (List D)} (a:FnOk Tryz.prog sig f) (o:OkS sig (Gd G dep (dep f)) f th):∀xs q,opt (th xs)=some q→FnOk Tryz.prog sig f∧evalBody Tryz.prog sig (Gd G dep (dep f)) KK f xs=some q:=fun xs q h=>⟨a,o xs q h⟩
theorem all_ok:AllG (fun f xs q=>FnOk Tryz.prog sig f∧evalBody Tryz.prog sig (Gd G dep (dep f)) KK f xs=some q) gT :=
  ⟨ak (fn_ok 5 (by simp)) ok5,ak (fn_ok 14 (by simp)) ok14,ak (fn_ok 55 (by simp)) ok55,ak (fn_ok 29 (by simp)) ok29,ak (fn_ok 28 (by simp)) ok28,ak (fn_ok 17 (by simp)) ok17,ak (fn_ok 16 (by simp)) ok16,ak (fn_ok 38 (by simp)) ok38,ak (fn_ok 62 (by simp)) ok62,ak (fn_ok 35 (by simp)) ok35,ak (fn_ok 20 (by simp)) ok20,ak (fn_ok 39 (by simp)) ok39,ak (fn_ok 21 (by simp)) ok21,ak (fn_ok 22 (by simp)) ok22,ak (fn_ok 23 (by simp)) ok23,ak (fn_ok 24 (by simp)) ok24,ak (fn_ok 7 (by simp)) ok7,ak (fn_ok 63 (by simp)) ok63,ak (fn_ok 31 (by simp)) ok31,ak (fn_ok 37 (by simp)) ok37,ak (fn_ok 60 (by simp)) ok60,ak (fn_ok 32 (by simp)) ok32,ak (fn_ok 61 (by simp)) ok61,ak (fn_ok 33 (by simp)) ok33,ak (fn_ok 83 (by simp)) ok83,ak (fn_ok 76 (by simp)) ok76,ak (fn_ok 12 (by simp)) ok12,ak (fn_ok 77 (by simp)) ok77,ak (fn_ok 102 (by simp)) ok102,ak (fn_ok 103 (by simp)) ok103,ak (fn_ok 112 (by simp)) ok112,ak (fn_ok 104 (by simp)) ok104,ak (fn_ok 84 (by simp)) ok84,ak (fn_ok 85 (by simp)) ok85,ak (fn_ok 86 (by simp)) ok86,ak (fn_ok 87 (by simp)) ok87,ak (fn_ok 105 (by simp)) ok105,ak (fn_ok 88 (by simp)) ok88,ak (fn_ok 89 (by simp)) ok89,ak (fn_ok 90 (by simp)) ok90,ak (fn_ok 78 (by simp)) ok78,ak (fn_ok 36 (by simp)) ok36,ak (fn_ok 19 (by simp)) ok19,ak (fn_ok 64 (by simp)) ok64,ak (fn_ok 34 (by simp)) ok34,ak (fn_ok 15 (by simp)) ok15,ak (fn_ok 10 (by simp)) ok10,ak (fn_ok 40 (by simp)) ok40,ak (fn_ok 42 (by simp)) ok42,ak (fn_ok 41 (by simp)) ok41,ak (fn_ok 43 (by simp)) ok43,ak (fn_ok 79 (by simp)) ok79,ak (fn_ok 65 (by simp)) ok65,ak (fn_ok 66 (by simp)) ok66,ak (fn_ok 44 (by simp)) ok44,ak (fn_ok 45 (by simp)) ok45,ak (fn_ok 25 (by simp)) ok25,ak (fn_ok 46 (by simp)) ok46,ak (fn_ok 26 (by simp)) ok26,ak (fn_ok 56 (by simp)) ok56,ak (fn_ok 57 (by simp)) ok57,ak (fn_ok 70 (by simp)) ok70,ak (fn_ok 58 (by simp)) ok58,ak (fn_ok 75 (by simp)) ok75,ak (fn_ok 74 (by simp)) ok74,ak (fn_ok 59 (by simp)) ok59,ak (fn_ok 30 (by simp)) ok30,ak (fn_ok 11 (by simp)) ok11,ak (fn_ok 13 (by simp)) ok13,ak (fn_ok 67 (by simp)) ok67,ak (fn_ok 68 (by simp)) ok68,ak (fn_ok 80 (by simp)) ok80,ak (fn_ok 69 (by simp)) ok69,ak (fn_ok 47 (by simp)) ok47,ak (fn_ok 48 (by simp)) ok48,ak (fn_ok 49 (by simp)) ok49,fun xs q h=>(hk50 xs q h).elim,fun xs q h=>(hk51 xs q h).elim,fun xs q h=>(hk52 xs q h).elim,ak (fn_ok 53 (by simp)) ok53,fun xs q h=>(hk54 xs q h).elim,ak (fn_ok 27 (by simp)) ok27,ak (fn_ok 9 (by simp)) ok9,ak (fn_ok 4 (by simp)) ok4,trivial⟩
theorem G_ok (f:Nat):SpecOk Tryz.prog (sig f) (fun xs=>opt (G f xs)) f:=G_spec (by kernel_rfl) (allG_of all_ok) f
end
end Go.Den.L4
