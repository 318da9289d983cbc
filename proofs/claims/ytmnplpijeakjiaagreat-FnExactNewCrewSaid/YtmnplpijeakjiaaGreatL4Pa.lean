/- Plain laws about what the functions compute; no condition. -/
import Derived.Test.YtmnplpijeakjiaaGreatL4Tw
import Derived.IntWalk
set_option linter.unusedVariables false
set_option linter.unusedSimpArgs false
namespace Go.Den.L4
open Go Go.IntWalk
abbrev BA:=ByteArray
theorem bft:(false=true)=False:=Bool.false_eq_true
theorem itn:∀n:Nat,(n:Int).toNat=n:=Int.toNat_natCast
theorem bnt:(!true)=false:=Bool.not_true
theorem bnf:(!false)=true:=Bool.not_false
theorem bat:∀b:Bool,(b&&true)=b:=Bool.and_true
theorem bto:∀b:Bool,(true||b)=true:=Bool.true_or
theorem bta:∀b:Bool,(true&&b)=b:=Bool.true_and
theorem ka (x:Rs):chk true x=x:=rfl
theorem kme {b:Bool} (h:b=true) (x:Rs):chk b x=x:=by rw [h];rfl
attribute [simp] ka okR isVs isV isD isDs isOs resC outC nthR nthO cellsDV nthD asB asI asS asL
theorem kwc {α:Type} (a b:Bool) (h:a=!b) (x y:α):(if a=true then x else y)=(if b=true then y else x):=by
 subst h;cases b<;>rfl
theorem kub (a b:Bool) (h:a=b):(some ([DV.one (.b a)],([]:Rw)):Rs)=some ([.one (.b b)],[]):=by rw [h]
theorem kqi:(⟨#[]⟩:BA).toList=[]:=by rw [ByteArray.toList_eq]
theorem kqe (s:BA):s.toList=[]↔(s.size:Int)=0:=by
 have e:s.size=s.data.toList.length:=by rw [Array.length_toList];rfl
 rw [ByteArray.toList_eq,e]
 cases s.data.toList<;>simp<;>omega
theorem kbf (s:BA):s.toList.isEmpty=decide ((s.size:Int)=0):=by
 rw [Bool.eq_iff_iff,List.isEmpty_iff,kqe];simp
attribute [simp] kqi kqe kbf
theorem kl:KK=18446744073709551616:=Classical.choose_spec (⟨2 ^ 64,rfl⟩:∃n:Nat,n=2 ^ 64)
theorem kb (n:Int) (h:-9223372036854775808≤n∧n≤9223372036854775807):w64 n=n:=i64_in n h
theorem kfi {l:Rw} {i:Nat} (hi:i < l.length):l.getD i []=l[i]:=by simp [List.getD,hi]
theorem kqb {l:Rw} {es:List Sh} (h:∀r∈l,typL es r) {i:Nat} (hi:i < l.length):typL es (l.getD i []):=by
 rw [kfi hi];exact h _ (List.getElem_mem hi)
theorem kg (i:Nat) (h:i < 4611686018427387904):w64 ((i:Int)+1)=((i+1:Nat):Int):=by
 rw [kb _ (by omega)];rfl
theorem kvb (a b c:Int):t18 a b c=some ([.one (.b (decide (b≤a)&&decide (a≤c)))],[]):=rfl
theorem kad (a b c:Int):t34 a b c=some ([.one (.b (decide (b≤a)&&decide (a≤c)))],[]):=rfl
mutual
def szdD:Sh→D→Prop
 | .b,_=>True
 | .i _,_=>True
 | .s,d=>(asS d).size≤1048576
 | .l es,d=>(asL d).length≤1048576∧∀r∈asL d,szdL es r
def szdL:List Sh→List D→Prop
 | [],_=>True
 | e :: es,ds=>szdD e (nthD ds 0)∧szdL es ds.tail
end
theorem kmd {l:Rw} {i:Nat} (h:i < l.length):l.getD i []∈l:=by rw [kfi h];exact List.getElem_mem h
theorem kyb {i n:Nat} (h:i < n):decide ((i:Int) < (n:Int))=true:=by simp;omega
theorem kxb (i:Nat):decide ((0:Int)≤(i:Int))=true:=by simp
theorem koe {α:Type} (f:α→α):∀(a:List α) (x:α) (b:List α),(a++x :: b).modify a.length f=a++f x :: b
 | [],x,b=>by simp
 | y :: a,x,b=>by simp [koe f a x b]
theorem kzd (x1:Int) (x2:Int) (x3:BA)  : t23 x1 x2 x3 x1 x2 x3=some ([.one (.b true)],[]):=by
 simp only [t23,bne_self_eq_false,bnt,bft,if_false,okR,isVs,isV,isD,isDs,isOs,resC,outC,nthR,nthO,cellsDV,nthD,asB,asI,asS,asL,bat,bta,BEq.rfl,ka,decide_true]
abbrev ki:List Sh:=[.i .i64,.s]
theorem kyc {r:List D} (h:typL ki r):∃x1 x2,r=[.i .i64 x1,.s x2]∧x2.size≤maxLen:=by
 obtain ⟨_,_,rfl,⟨x1,rfl,_⟩,⟨_,_,rfl,⟨x2,rfl,wx2⟩,rfl⟩⟩:=h
 exact ⟨x1,x2,rfl,wx2⟩
theorem kng (x1:Int) (x2:BA)  : t80 x1 x2 x1 x2=some ([.one (.b true)],[]):=by
 simp only [t80,bne_self_eq_false,bnt,bft,if_false,okR,isVs,isV,isD,isDs,isOs,resC,outC,nthR,nthO,cellsDV,nthD,asB,asI,asS,asL,bat,bta,BEq.rfl,ka,decide_true]
theorem kwf (b0 b1:Bool) (q1:Int→Bool→Bool→Rs) (q2:Int→Bool→SV→Rs) (h2:∀a b c,q2 a b c=some ([.one (.b true)],[])) (l:Rw) (h:∀r∈l,typL ki r) (hl:l.length < 4611686018427387904):∀(k i m:Nat) (v w:SV),i+k=l.length→k < m →
  la38o1 t80 l l b0 b1 q1 q2 m i v w=some ([.one (.b true)],[]):=by
 intro k
 induction k with
 | zero =>
  intro i m v w e hm
  obtain ⟨m,rfl⟩:∃m',m=m' + 1:=⟨m - 1,by omega⟩
  have ei:decide ((i:Int) < (l.length:Int))=false:=by simp;omega
  simp only [la38o1,ei,h2]
  simp
 | succ k ih =>
  intro i m v w e hm
  obtain ⟨m,rfl⟩:∃m',m=m' + 1:=⟨m - 1,by omega⟩
  have hr:=kqb h (i:=i) (by omega)
  obtain ⟨c1,c2,er,wc2⟩:=kyc hr
  have e1:decide ((i:Int) < (l.length:Int))=true:=by simp;omega
  have e2:decide ((0:Int)≤(i:Int))=true:=by simp
  have ez:isRow z116 [.i .i64 c1,.s c2]=true:=rfl
  have ew:okR zr80 zo80 (some ([.one (.b true)],[]))=true:=rfl
  simp only [la38o1,e1,e2,itn,er,ez,nthD,asI,asS,asB,asL,kng c1 c2,resC,nthR,cellsDV,ew,bat,ka,if_true,bnt,bft,if_false]
  rw [kg i (by omega)]
  exact ih (i+1) m _ _ (by omega) (by omega)
theorem ksc (l:Rw) (hl:l.length≤1048576) (h:∀r∈l,typL ki r):t38 l l=some ([.one (.b true)],[]):=by
 have:=kwf false false (fun _ _ _=>some ([.one (.b false)],[])) (fun _ _ _=>some ([.one (.b true)],[])) (fun _ _ _=>rfl) l h (by omega) l.length 0 KK .undef .undef (by omega) (by rw [kl];omega)
 simpa [t38,ta38] using this
theorem klh (x1:Int) (x2:Int) (x3:Int) (x4:Int) (x5:BA) (x6:Rw) (wx6:x6.length≤1048576) (tx6:∀r∈x6,typL ki r):t62 x1 x2 x3 x4 x5 x6 x1 x2 x3 x4 x5 x6=some ([.one (.b true)],[]):=by
 simp only [t62,ta62,bne_self_eq_false,bnt,bft,if_false,kzd x3 x4 x5 , ksc x6 wx6 tx6,zr23,zo23,zr38,zo38,okR,isVs,isV,isD,isDs,isOs,resC,outC,nthR,nthO,cellsDV,nthD,asB,asI,asS,asL,bat,bta,BEq.rfl,ka,decide_true]
abbrev kcc:List Sh:=[.i .i64,.i .i64,.i .i64,.i .i64,.s]
theorem kei {r:List D} (h:typL kcc r):∃x1 x2 x3 x4 x5,r=[.i .i64 x1,.i .i64 x2,.i .i64 x3,.i .i64 x4,.s x5]∧x5.size≤maxLen:=by
 obtain ⟨_,_,rfl,⟨x1,rfl,_⟩,⟨_,_,rfl,⟨x2,rfl,_⟩,⟨_,_,rfl,⟨x3,rfl,_⟩,⟨_,_,rfl,⟨x4,rfl,_⟩,⟨_,_,rfl,⟨x5,rfl,wx5⟩,rfl⟩⟩⟩⟩⟩:=h
 exact ⟨x1,x2,x3,x4,x5,rfl,wx5⟩
theorem ksi (x1:Int) (x2:Int) (x3:Int) (x4:Int) (x5:BA)  : t104 x1 x2 x3 x4 x5 x1 x2 x3 x4 x5=some ([.one (.b true)],[]):=by
 simp only [t104,bne_self_eq_false,bnt,bft,if_false,okR,isVs,isV,isD,isDs,isOs,resC,outC,nthR,nthO,cellsDV,nthD,asB,asI,asS,asL,bat,bta,BEq.rfl,ka,decide_true]
theorem kih (b0 b1:Bool) (q1:Int→Bool→Bool→Rs) (q2:Int→Bool→SV→Rs) (h2:∀a b c,q2 a b c=some ([.one (.b true)],[])) (l:Rw) (h:∀r∈l,typL kcc r) (hl:l.length < 4611686018427387904):∀(k i m:Nat) (v w:SV),i+k=l.length→k < m →
  la63o1 t104 l l b0 b1 q1 q2 m i v w=some ([.one (.b true)],[]):=by
 intro k
 induction k with
 | zero =>
  intro i m v w e hm
  obtain ⟨m,rfl⟩:∃m',m=m' + 1:=⟨m - 1,by omega⟩
  have ei:decide ((i:Int) < (l.length:Int))=false:=by simp;omega
  simp only [la63o1,ei,h2]
  simp
 | succ k ih =>
  intro i m v w e hm
  obtain ⟨m,rfl⟩:∃m',m=m' + 1:=⟨m - 1,by omega⟩
  have hr:=kqb h (i:=i) (by omega)
  obtain ⟨c1,c2,c3,c4,c5,er,wc5⟩:=kei hr
  have e1:decide ((i:Int) < (l.length:Int))=true:=by simp;omega
  have e2:decide ((0:Int)≤(i:Int))=true:=by simp
  have ez:isRow z139 [.i .i64 c1,.i .i64 c2,.i .i64 c3,.i .i64 c4,.s c5]=true:=rfl
  have ew:okR zr104 zo104 (some ([.one (.b true)],[]))=true:=rfl
  simp only [la63o1,e1,e2,itn,er,ez,nthD,asI,asS,asB,asL,ksi c1 c2 c3 c4 c5,resC,nthR,cellsDV,ew,bat,ka,if_true,bnt,bft,if_false]
  rw [kg i (by omega)]
  exact ih (i+1) m _ _ (by omega) (by omega)
theorem kvh (l:Rw) (hl:l.length≤1048576) (h:∀r∈l,typL kcc r):t63 l l=some ([.one (.b true)],[]):=by
 have:=kih false false (fun _ _ _=>some ([.one (.b false)],[])) (fun _ _ _=>some ([.one (.b true)],[])) (fun _ _ _=>rfl) l h (by omega) l.length 0 KK .undef .undef (by omega) (by rw [kl];omega)
 simpa [t63,ta63] using this
theorem kvg (x1:Int) (x2:Int) (x3:Int) (x4:Int) (x5:BA) (x6:Rw) (x7:Rw) (wx6:x6.length≤1048576) (tx6:∀r∈x6,typL ki r) (wx7:x7.length≤1048576) (tx7:∀r∈x7,typL kcc r):t24 x1 x2 x3 x4 x5 x6 x7 x1 x2 x3 x4 x5 x6 x7=some ([.one (.b true)],[]):=by
 simp only [t24,ta24,bne_self_eq_false,bnt,bft,if_false,klh x1 x2 x3 x4 x5 x6 wx6 tx6,kvh x7 wx7 tx7,zr62,zo62,zr63,zo63,okR,isVs,isV,isD,isDs,isOs,resC,outC,nthR,nthO,cellsDV,nthD,asB,asI,asS,asL,bat,bta,BEq.rfl,ka,decide_true]
abbrev ktc:List Sh:=[.s,.i .i64]
theorem kki {r:List D} (h:typL ktc r):∃x1 x2,r=[.s x1,.i .i64 x2]∧x1.size≤maxLen:=by
 obtain ⟨_,_,rfl,⟨x1,rfl,wx1⟩,⟨_,_,rfl,⟨x2,rfl,_⟩,rfl⟩⟩:=h
 exact ⟨x1,x2,rfl,wx1⟩
theorem kkf (x1:BA) (x2:Int)  : t191 x1 x2 x1 x2=some ([.one (.b true)],[]):=by
 simp only [t191,bne_self_eq_false,bnt,bft,if_false,okR,isVs,isV,isD,isDs,isOs,resC,outC,nthR,nthO,cellsDV,nthD,asB,asI,asS,asL,bat,bta,BEq.rfl,ka,decide_true]
theorem kaf (b0 b1:Bool) (q1:Int→Bool→Bool→Rs) (q2:Int→Bool→SV→Rs) (h2:∀a b c,q2 a b c=some ([.one (.b true)],[])) (l:Rw) (h:∀r∈l,typL ktc r) (hl:l.length < 4611686018427387904):∀(k i m:Nat) (v w:SV),i+k=l.length→k < m →
  la181o1 t191 l l b0 b1 q1 q2 m i v w=some ([.one (.b true)],[]):=by
 intro k
 induction k with
 | zero =>
  intro i m v w e hm
  obtain ⟨m,rfl⟩:∃m',m=m' + 1:=⟨m - 1,by omega⟩
  have ei:decide ((i:Int) < (l.length:Int))=false:=by simp;omega
  simp only [la181o1,ei,h2]
  simp
 | succ k ih =>
  intro i m v w e hm
  obtain ⟨m,rfl⟩:∃m',m=m' + 1:=⟨m - 1,by omega⟩
  have hr:=kqb h (i:=i) (by omega)
  obtain ⟨c1,c2,er,wc1⟩:=kki hr
  have e1:decide ((i:Int) < (l.length:Int))=true:=by simp;omega
  have e2:decide ((0:Int)≤(i:Int))=true:=by simp
  have ez:isRow z179 [.s c1,.i .i64 c2]=true:=rfl
  have ew:okR zr191 zo191 (some ([.one (.b true)],[]))=true:=rfl
  simp only [la181o1,e1,e2,itn,er,ez,nthD,asI,asS,asB,asL,kkf c1 c2,resC,nthR,cellsDV,ew,bat,ka,if_true,bnt,bft,if_false]
  rw [kg i (by omega)]
  exact ih (i+1) m _ _ (by omega) (by omega)
theorem kve (l:Rw) (hl:l.length≤1048576) (h:∀r∈l,typL ktc r):t181 l l=some ([.one (.b true)],[]):=by
 have:=kaf false false (fun _ _ _=>some ([.one (.b false)],[])) (fun _ _ _=>some ([.one (.b true)],[])) (fun _ _ _=>rfl) l h (by omega) l.length 0 KK .undef .undef (by omega) (by rw [kl];omega)
 simpa [t181,ta181] using this
abbrev kbb:List Sh:=[.i .i64,.i .i64,.i .i64,.i .i64,.i .i64,.s,.l [.s,.i .i64],.i .i64,.i .i64]
theorem krd {r:List D} (h:typL kbb r):∃x1 x2 x3 x4 x5 x6 x7 x8 x9,r=[.i .i64 x1,.i .i64 x2,.i .i64 x3,.i .i64 x4,.i .i64 x5,.s x6,.l x7,.i .i64 x8,.i .i64 x9]∧x6.size≤maxLen∧x7.length≤maxLen∧(∀r∈x7,typL ktc r):=by
 obtain ⟨_,_,rfl,⟨x1,rfl,_⟩,⟨_,_,rfl,⟨x2,rfl,_⟩,⟨_,_,rfl,⟨x3,rfl,_⟩,⟨_,_,rfl,⟨x4,rfl,_⟩,⟨_,_,rfl,⟨x5,rfl,_⟩,⟨_,_,rfl,⟨x6,rfl,wx6⟩,⟨_,_,rfl,⟨x7,rfl,wx7,tx7⟩,⟨_,_,rfl,⟨x8,rfl,_⟩,⟨_,_,rfl,⟨x9,rfl,_⟩,rfl⟩⟩⟩⟩⟩⟩⟩⟩⟩:=h
 exact ⟨x1,x2,x3,x4,x5,x6,x7,x8,x9,rfl,wx6,wx7,tx7⟩
theorem keh (x1:Int) (x2:Int) (x3:Int) (x4:Int) (x5:Int) (x6:BA) (x7:Rw) (x8:Int) (x9:Int) (wx7:x7.length≤1048576) (tx7:∀r∈x7,typL ktc r):t162 x1 x2 x3 x4 x5 x6 x7 x8 x9 x1 x2 x3 x4 x5 x6 x7 x8 x9=some ([.one (.b true)],[]):=by
 simp only [t162,ta162,bne_self_eq_false,bnt,bft,if_false,kve x7 wx7 tx7,zr181,zo181,okR,isVs,isV,isD,isDs,isOs,resC,outC,nthR,nthO,cellsDV,nthD,asB,asI,asS,asL,bat,bta,BEq.rfl,ka,decide_true]
theorem kbg (b0 b1:Bool) (q1:Int→Bool→Bool→Rs) (q2:Int→Bool→SV→Rs) (h2:∀a b c,q2 a b c=some ([.one (.b true)],[])) (l:Rw) (h:∀r∈l,typL kbb r) (hs:∀r∈l,szdL kbb r) (hl:l.length < 4611686018427387904):∀(k i m:Nat) (v w:SV),i+k=l.length→k < m →
  la134o1 t162 l l b0 b1 q1 q2 m i v w=some ([.one (.b true)],[]):=by
 intro k
 induction k with
 | zero =>
  intro i m v w e hm
  obtain ⟨m,rfl⟩:∃m',m=m' + 1:=⟨m - 1,by omega⟩
  have ei:decide ((i:Int) < (l.length:Int))=false:=by simp;omega
  simp only [la134o1,ei,h2]
  simp
 | succ k ih =>
  intro i m v w e hm
  obtain ⟨m,rfl⟩:∃m',m=m' + 1:=⟨m - 1,by omega⟩
  have hr:=kqb h (i:=i) (by omega)
  obtain ⟨c1,c2,c3,c4,c5,c6,c7,c8,c9,er,wc6,wc7,tc7⟩:=krd hr
  have hso:=hs _ (kmd (l:=l) (i:=i) (by omega))
  rw [er] at hso
  have e1:decide ((i:Int) < (l.length:Int))=true:=by simp;omega
  have e2:decide ((0:Int)≤(i:Int))=true:=by simp
  have ez:isRow z143 [.i .i64 c1,.i .i64 c2,.i .i64 c3,.i .i64 c4,.i .i64 c5,.s c6,.l c7,.i .i64 c8,.i .i64 c9]=true:=rfl
  have ew:okR zr162 zo162 (some ([.one (.b true)],[]))=true:=rfl
  simp only [la134o1,e1,e2,itn,er,ez,nthD,asI,asS,asB,asL,keh c1 c2 c3 c4 c5 c6 c7 c8 c9 hso.2.2.2.2.2.2.1.1 tc7,resC,nthR,cellsDV,ew,bat,ka,if_true,bnt,bft,if_false]
  rw [kg i (by omega)]
  exact ih (i+1) m _ _ (by omega) (by omega)
theorem kuf (l:Rw) (hl:l.length≤1048576) (h:∀r∈l,typL kbb r) (hs:∀r∈l,szdL kbb r):t134 l l=some ([.one (.b true)],[]):=by
 have:=kbg false false (fun _ _ _=>some ([.one (.b false)],[])) (fun _ _ _=>some ([.one (.b true)],[])) (fun _ _ _=>rfl) l h hs (by omega) l.length 0 KK .undef .undef (by omega) (by rw [kl];omega)
 simpa [t134,ta134] using this
theorem kpi (x1:Int) (x2:Rw) (wx2:x2.length≤1048576) (tx2:∀r∈x2,typL kbb r) (sx2:∀r∈x2,szdL kbb r):t101 x1 x2 x1 x2=some ([.one (.b true)],[]):=by
 simp only [t101,ta101,bne_self_eq_false,bnt,bft,if_false,kuf x2 wx2 tx2 sx2,zr134,zo134,okR,isVs,isV,isD,isDs,isOs,resC,outC,nthR,nthO,cellsDV,nthD,asB,asI,asS,asL,bat,bta,BEq.rfl,ka,decide_true]
abbrev kr:List Sh:=[.i .i64]
theorem kdi {r:List D} (h:typL kr r):∃x1,r=[.i .i64 x1]:=by
 obtain ⟨_,_,rfl,⟨x1,rfl,_⟩,rfl⟩:=h
 exact ⟨x1,rfl⟩
theorem kkh (b0 b1:Bool) (q1:Int→Bool→Bool→Rs) (q2:Int→Bool→SV→Rs) (h2:∀a b c,q2 a b c=some ([.one (.b true)],[])) (l:Rw) (h:∀r∈l,typL kr r) (hl:l.length < 4611686018427387904):∀(k i m:Nat) (v w:SV),i+k=l.length→k < m →
  l60o1 l l b0 b1 q1 q2 m i v w=some ([.one (.b true)],[]):=by
 intro k
 induction k with
 | zero =>
  intro i m v w e hm
  obtain ⟨m,rfl⟩:∃m',m=m' + 1:=⟨m - 1,by omega⟩
  have ei:decide ((i:Int) < (l.length:Int))=false:=by simp;omega
  simp only [l60o1,ei,h2]
  simp
 | succ k ih =>
  intro i m v w e hm
  obtain ⟨m,rfl⟩:∃m',m=m' + 1:=⟨m - 1,by omega⟩
  have hr:=kqb h (i:=i) (by omega)
  obtain ⟨c1,er⟩:=kdi hr
  have e1:decide ((i:Int) < (l.length:Int))=true:=by simp;omega
  have e2:decide ((0:Int)≤(i:Int))=true:=by simp
  have ez:isRow z3 [.i .i64 c1]=true:=rfl
  simp only [l60o1,e1,e2,itn,er,ez,nthD,asI,asS,asB,asL,bne_self_eq_false,resC,nthR,cellsDV,bat,ka,if_true,bnt,bft,if_false]
  rw [kg i (by omega)]
  exact ih (i+1) m _ _ (by omega) (by omega)
theorem kld (l:Rw) (hl:l.length≤1048576) (h:∀r∈l,typL kr r):t60 l l=some ([.one (.b true)],[]):=by
 have:=kkh false false (fun _ _ _=>some ([.one (.b false)],[])) (fun _ _ _=>some ([.one (.b true)],[])) (fun _ _ _=>rfl) l h (by omega) l.length 0 KK .undef .undef (by omega) (by rw [kl];omega)
 simpa [t60] using this
theorem khh (x1:Int) (x2:BA) (x3:BA) (x4:Int) (x5:Int) (x6:BA)  : t105 x1 x2 x3 x4 x5 x6 x1 x2 x3 x4 x5 x6=some ([.one (.b true)],[]):=by
 simp only [t105,bne_self_eq_false,bnt,bft,if_false,okR,isVs,isV,isD,isDs,isOs,resC,outC,nthR,nthO,cellsDV,nthD,asB,asI,asS,asL,bat,bta,BEq.rfl,ka,decide_true]
theorem kag (x1:Int) (x2:BA)  : t163 x1 x2 x1 x2=some ([.one (.b true)],[]):=by
 simp only [t163,bne_self_eq_false,bnt,bft,if_false,okR,isVs,isV,isD,isDs,isOs,resC,outC,nthR,nthO,cellsDV,nthD,asB,asI,asS,asL,bat,bta,BEq.rfl,ka,decide_true]
abbrev ked:List Sh:=[.i .i64,.i .i64,.i .i64,.i .i64,.i .i64]
theorem krj {r:List D} (h:typL ked r):∃x1 x2 x3 x4 x5,r=[.i .i64 x1,.i .i64 x2,.i .i64 x3,.i .i64 x4,.i .i64 x5]:=by
 obtain ⟨_,_,rfl,⟨x1,rfl,_⟩,⟨_,_,rfl,⟨x2,rfl,_⟩,⟨_,_,rfl,⟨x3,rfl,_⟩,⟨_,_,rfl,⟨x4,rfl,_⟩,⟨_,_,rfl,⟨x5,rfl,_⟩,rfl⟩⟩⟩⟩⟩:=h
 exact ⟨x1,x2,x3,x4,x5,rfl⟩
theorem kqh (x1:Int) (x2:Int) (x3:Int) (x4:Int) (x5:Int)  : t135 x1 x2 x3 x4 x5 x1 x2 x3 x4 x5=some ([.one (.b true)],[]):=by
 simp only [t135,bne_self_eq_false,bnt,bft,if_false,okR,isVs,isV,isD,isDs,isOs,resC,outC,nthR,nthO,cellsDV,nthD,asB,asI,asS,asL,bat,bta,BEq.rfl,ka,decide_true]
theorem kig (b0 b1:Bool) (q1:Int→Bool→Bool→Rs) (q2:Int→Bool→SV→Rs) (h2:∀a b c,q2 a b c=some ([.one (.b true)],[])) (l:Rw) (h:∀r∈l,typL ked r) (hl:l.length < 4611686018427387904):∀(k i m:Nat) (v w:SV),i+k=l.length→k < m →
  la102o1 t135 l l b0 b1 q1 q2 m i v w=some ([.one (.b true)],[]):=by
 intro k
 induction k with
 | zero =>
  intro i m v w e hm
  obtain ⟨m,rfl⟩:∃m',m=m' + 1:=⟨m - 1,by omega⟩
  have ei:decide ((i:Int) < (l.length:Int))=false:=by simp;omega
  simp only [la102o1,ei,h2]
  simp
 | succ k ih =>
  intro i m v w e hm
  obtain ⟨m,rfl⟩:∃m',m=m' + 1:=⟨m - 1,by omega⟩
  have hr:=kqb h (i:=i) (by omega)
  obtain ⟨c1,c2,c3,c4,c5,er⟩:=krj hr
  have e1:decide ((i:Int) < (l.length:Int))=true:=by simp;omega
  have e2:decide ((0:Int)≤(i:Int))=true:=by simp
  have ez:isRow z146 [.i .i64 c1,.i .i64 c2,.i .i64 c3,.i .i64 c4,.i .i64 c5]=true:=rfl
  have ew:okR zr135 zo135 (some ([.one (.b true)],[]))=true:=rfl
  simp only [la102o1,e1,e2,itn,er,ez,nthD,asI,asS,asB,asL,kqh c1 c2 c3 c4 c5,resC,nthR,cellsDV,ew,bat,ka,if_true,bnt,bft,if_false]
  rw [kg i (by omega)]
  exact ih (i+1) m _ _ (by omega) (by omega)
theorem ktg (l:Rw) (hl:l.length≤1048576) (h:∀r∈l,typL ked r):t102 l l=some ([.one (.b true)],[]):=by
 have:=kig false false (fun _ _ _=>some ([.one (.b false)],[])) (fun _ _ _=>some ([.one (.b true)],[])) (fun _ _ _=>rfl) l h (by omega) l.length 0 KK .undef .undef (by omega) (by rw [kl];omega)
 simpa [t102,ta102] using this
abbrev kmc:List Sh:=[.i .i64,.i .i64,.i .i64,.i .i64,.s]
theorem kzh {r:List D} (h:typL kmc r):∃x1 x2 x3 x4 x5,r=[.i .i64 x1,.i .i64 x2,.i .i64 x3,.i .i64 x4,.s x5]∧x5.size≤maxLen:=by
 obtain ⟨_,_,rfl,⟨x1,rfl,_⟩,⟨_,_,rfl,⟨x2,rfl,_⟩,⟨_,_,rfl,⟨x3,rfl,_⟩,⟨_,_,rfl,⟨x4,rfl,_⟩,⟨_,_,rfl,⟨x5,rfl,wx5⟩,rfl⟩⟩⟩⟩⟩:=h
 exact ⟨x1,x2,x3,x4,x5,rfl,wx5⟩
theorem kff (x1:Int) (x2:Int) (x3:Int) (x4:Int) (x5:BA)  : t136 x1 x2 x3 x4 x5 x1 x2 x3 x4 x5=some ([.one (.b true)],[]):=by
 simp only [t136,ta136,bne_self_eq_false,bnt,bft,if_false,kag x4 x5 , zr163,zo163,okR,isVs,isV,isD,isDs,isOs,resC,outC,nthR,nthO,cellsDV,nthD,asB,asI,asS,asL,bat,bta,BEq.rfl,ka,decide_true]
theorem kfe (b0 b1:Bool) (q1:Int→Bool→Bool→Rs) (q2:Int→Bool→SV→Rs) (h2:∀a b c,q2 a b c=some ([.one (.b true)],[])) (l:Rw) (h:∀r∈l,typL kmc r) (hl:l.length < 4611686018427387904):∀(k i m:Nat) (v w:SV),i+k=l.length→k < m →
  la103o1 t136 l l b0 b1 q1 q2 m i v w=some ([.one (.b true)],[]):=by
 intro k
 induction k with
 | zero =>
  intro i m v w e hm
  obtain ⟨m,rfl⟩:∃m',m=m' + 1:=⟨m - 1,by omega⟩
  have ei:decide ((i:Int) < (l.length:Int))=false:=by simp;omega
  simp only [la103o1,ei,h2]
  simp
 | succ k ih =>
  intro i m v w e hm
  obtain ⟨m,rfl⟩:∃m',m=m' + 1:=⟨m - 1,by omega⟩
  have hr:=kqb h (i:=i) (by omega)
  obtain ⟨c1,c2,c3,c4,c5,er,wc5⟩:=kzh hr
  have e1:decide ((i:Int) < (l.length:Int))=true:=by simp;omega
  have e2:decide ((0:Int)≤(i:Int))=true:=by simp
  have ez:isRow z150 [.i .i64 c1,.i .i64 c2,.i .i64 c3,.i .i64 c4,.s c5]=true:=rfl
  have ew:okR zr136 zo136 (some ([.one (.b true)],[]))=true:=rfl
  simp only [la103o1,e1,e2,itn,er,ez,nthD,asI,asS,asB,asL,kff c1 c2 c3 c4 c5,resC,nthR,cellsDV,ew,bat,ka,if_true,bnt,bft,if_false]
  rw [kg i (by omega)]
  exact ih (i+1) m _ _ (by omega) (by omega)
theorem kje (l:Rw) (hl:l.length≤1048576) (h:∀r∈l,typL kmc r):t103 l l=some ([.one (.b true)],[]):=by
 have:=kfe false false (fun _ _ _=>some ([.one (.b false)],[])) (fun _ _ _=>some ([.one (.b true)],[])) (fun _ _ _=>rfl) l h (by omega) l.length 0 KK .undef .undef (by omega) (by rw [kl];omega)
 simpa [t103,ta103] using this
abbrev ko:List Sh:=[.i .i64,.l [.i .i64,.i .i64,.i .i64,.i .i64,.i .i64,.s,.l [.s,.i .i64],.i .i64,.i .i64],.i .i64,.l [.i .i64,.i .i64,.i .i64,.i .i64,.i .i64],.l [.i .i64,.i .i64,.i .i64,.i .i64,.s]]
theorem kod {r:List D} (h:typL ko r):∃x1 x2 x3 x4 x5,r=[.i .i64 x1,.l x2,.i .i64 x3,.l x4,.l x5]∧x2.length≤maxLen∧(∀r∈x2,typL kbb r)∧x4.length≤maxLen∧(∀r∈x4,typL ked r)∧x5.length≤maxLen∧(∀r∈x5,typL kmc r):=by
 obtain ⟨_,_,rfl,⟨x1,rfl,_⟩,⟨_,_,rfl,⟨x2,rfl,wx2,tx2⟩,⟨_,_,rfl,⟨x3,rfl,_⟩,⟨_,_,rfl,⟨x4,rfl,wx4,tx4⟩,⟨_,_,rfl,⟨x5,rfl,wx5,tx5⟩,rfl⟩⟩⟩⟩⟩:=h
 exact ⟨x1,x2,x3,x4,x5,rfl,wx2,tx2,wx4,tx4,wx5,tx5⟩
theorem kpf (x1:Int) (x2:Rw) (x3:Int) (x4:Rw) (x5:Rw) (wx2:x2.length≤1048576) (tx2:∀r∈x2,typL kbb r) (sx2:∀r∈x2,szdL kbb r) (wx4:x4.length≤1048576) (tx4:∀r∈x4,typL ked r) (wx5:x5.length≤1048576) (tx5:∀r∈x5,typL kmc r):t61 x1 x2 x3 x4 x5 x1 x2 x3 x4 x5=some ([.one (.b true)],[]):=by
 simp only [t61,ta61,bne_self_eq_false,bnt,bft,if_false,kpi x1 x2 wx2 tx2 sx2,ktg x4 wx4 tx4,kje x5 wx5 tx5,zr101,zo101,zr102,zo102,zr103,zo103,okR,isVs,isV,isD,isDs,isOs,resC,outC,nthR,nthO,cellsDV,nthD,asB,asI,asS,asL,bat,bta,BEq.rfl,ka,decide_true]
theorem kye (b0 b1:Bool) (q1:Int→Bool→Bool→Rs) (q2:Int→Bool→SV→Rs) (h2:∀a b c,q2 a b c=some ([.one (.b true)],[])) (l:Rw) (h:∀r∈l,typL ko r) (hs:∀r∈l,szdL ko r) (hl:l.length < 4611686018427387904):∀(k i m:Nat) (v w:SV),i+k=l.length→k < m →
  la22o1 t61 l l b0 b1 q1 q2 m i v w=some ([.one (.b true)],[]):=by
 intro k
 induction k with
 | zero =>
  intro i m v w e hm
  obtain ⟨m,rfl⟩:∃m',m=m' + 1:=⟨m - 1,by omega⟩
  have ei:decide ((i:Int) < (l.length:Int))=false:=by simp;omega
  simp only [la22o1,ei,h2]
  simp
 | succ k ih =>
  intro i m v w e hm
  obtain ⟨m,rfl⟩:∃m',m=m' + 1:=⟨m - 1,by omega⟩
  have hr:=kqb h (i:=i) (by omega)
  obtain ⟨c1,c2,c3,c4,c5,er,wc2,tc2,wc4,tc4,wc5,tc5⟩:=kod hr
  have hso:=hs _ (kmd (l:=l) (i:=i) (by omega))
  rw [er] at hso
  have e1:decide ((i:Int) < (l.length:Int))=true:=by simp;omega
  have e2:decide ((0:Int)≤(i:Int))=true:=by simp
  have ez:isRow z94 [.i .i64 c1,.l c2,.i .i64 c3,.l c4,.l c5]=true:=rfl
  have ew:okR zr61 zo61 (some ([.one (.b true)],[]))=true:=rfl
  simp only [la22o1,e1,e2,itn,er,ez,nthD,asI,asS,asB,asL,kpf c1 c2 c3 c4 c5 hso.2.1.1 tc2 hso.2.1.2 hso.2.2.2.1.1 tc4 hso.2.2.2.2.1.1 tc5,resC,nthR,cellsDV,ew,bat,ka,if_true,bnt,bft,if_false]
  rw [kg i (by omega)]
  exact ih (i+1) m _ _ (by omega) (by omega)
theorem kgf (l:Rw) (hl:l.length≤1048576) (h:∀r∈l,typL ko r) (hs:∀r∈l,szdL ko r):t22 l l=some ([.one (.b true)],[]):=by
 have:=kye false false (fun _ _ _=>some ([.one (.b false)],[])) (fun _ _ _=>some ([.one (.b true)],[])) (fun _ _ _=>rfl) l h hs (by omega) l.length 0 KK .undef .undef (by omega) (by rw [kl];omega)
 simpa [t22,ta22] using this
abbrev kdd:List Sh:=[.i .i64,.i .i64,.i .i64,.i .i64,.s,.s,.i .i64,.i .i64,.s]
theorem ktj {r:List D} (h:typL kdd r):∃x1 x2 x3 x4 x5 x6 x7 x8 x9,r=[.i .i64 x1,.i .i64 x2,.i .i64 x3,.i .i64 x4,.s x5,.s x6,.i .i64 x7,.i .i64 x8,.s x9]∧x5.size≤maxLen∧x6.size≤maxLen∧x9.size≤maxLen:=by
 obtain ⟨_,_,rfl,⟨x1,rfl,_⟩,⟨_,_,rfl,⟨x2,rfl,_⟩,⟨_,_,rfl,⟨x3,rfl,_⟩,⟨_,_,rfl,⟨x4,rfl,_⟩,⟨_,_,rfl,⟨x5,rfl,wx5⟩,⟨_,_,rfl,⟨x6,rfl,wx6⟩,⟨_,_,rfl,⟨x7,rfl,_⟩,⟨_,_,rfl,⟨x8,rfl,_⟩,⟨_,_,rfl,⟨x9,rfl,wx9⟩,rfl⟩⟩⟩⟩⟩⟩⟩⟩⟩:=h
 exact ⟨x1,x2,x3,x4,x5,x6,x7,x8,x9,rfl,wx5,wx6,wx9⟩
theorem krh (x1:Int) (x2:Int) (x3:Int) (x4:Int) (x5:BA) (x6:BA) (x7:Int) (x8:Int) (x9:BA)  : t64 x1 x2 x3 x4 x5 x6 x7 x8 x9 x1 x2 x3 x4 x5 x6 x7 x8 x9=some ([.one (.b true)],[]):=by
 simp only [t64,ta64,bne_self_eq_false,bnt,bft,if_false,khh x4 x5 x6 x7 x8 x9 , zr105,zo105,okR,isVs,isV,isD,isDs,isOs,resC,outC,nthR,nthO,cellsDV,nthD,asB,asI,asS,asL,bat,bta,BEq.rfl,ka,decide_true]
theorem klg (b0 b1:Bool) (q1:Int→Bool→Bool→Rs) (q2:Int→Bool→SV→Rs) (h2:∀a b c,q2 a b c=some ([.one (.b true)],[])) (l:Rw) (h:∀r∈l,typL kdd r) (hl:l.length < 4611686018427387904):∀(k i m:Nat) (v w:SV),i+k=l.length→k < m →
  la25o1 t64 l l b0 b1 q1 q2 m i v w=some ([.one (.b true)],[]):=by
 intro k
 induction k with
 | zero =>
  intro i m v w e hm
  obtain ⟨m,rfl⟩:∃m',m=m' + 1:=⟨m - 1,by omega⟩
  have ei:decide ((i:Int) < (l.length:Int))=false:=by simp;omega
  simp only [la25o1,ei,h2]
  simp
 | succ k ih =>
  intro i m v w e hm
  obtain ⟨m,rfl⟩:∃m',m=m' + 1:=⟨m - 1,by omega⟩
  have hr:=kqb h (i:=i) (by omega)
  obtain ⟨c1,c2,c3,c4,c5,c6,c7,c8,c9,er,wc5,wc6,wc9⟩:=ktj hr
  have e1:decide ((i:Int) < (l.length:Int))=true:=by simp;omega
  have e2:decide ((0:Int)≤(i:Int))=true:=by simp
  have ez:isRow z100 [.i .i64 c1,.i .i64 c2,.i .i64 c3,.i .i64 c4,.s c5,.s c6,.i .i64 c7,.i .i64 c8,.s c9]=true:=rfl
  have ew:okR zr64 zo64 (some ([.one (.b true)],[]))=true:=rfl
  simp only [la25o1,e1,e2,itn,er,ez,nthD,asI,asS,asB,asL,krh c1 c2 c3 c4 c5 c6 c7 c8 c9,resC,nthR,cellsDV,ew,bat,ka,if_true,bnt,bft,if_false]
  rw [kg i (by omega)]
  exact ih (i+1) m _ _ (by omega) (by omega)
theorem kbh (l:Rw) (hl:l.length≤1048576) (h:∀r∈l,typL kdd r):t25 l l=some ([.one (.b true)],[]):=by
 have:=klg false false (fun _ _ _=>some ([.one (.b false)],[])) (fun _ _ _=>some ([.one (.b true)],[])) (fun _ _ _=>rfl) l h (by omega) l.length 0 KK .undef .undef (by omega) (by rw [kl];omega)
 simpa [t25,ta25] using this
abbrev klb:List Sh:=[.i .i64,.i .i64,.i .i64,.i .i64,.i .i64,.i .i64,.i .i64,.b,.l [.i .i64,.s],.s]
theorem kud {r:List D} (h:typL klb r):∃x1 x2 x3 x4 x5 x6 x7 x8 x9 x10,r=[.i .i64 x1,.i .i64 x2,.i .i64 x3,.i .i64 x4,.i .i64 x5,.i .i64 x6,.i .i64 x7,.b x8,.l x9,.s x10]∧x9.length≤maxLen∧(∀r∈x9,typL ki r)∧x10.size≤maxLen:=by
 obtain ⟨_,_,rfl,⟨x1,rfl,_⟩,⟨_,_,rfl,⟨x2,rfl,_⟩,⟨_,_,rfl,⟨x3,rfl,_⟩,⟨_,_,rfl,⟨x4,rfl,_⟩,⟨_,_,rfl,⟨x5,rfl,_⟩,⟨_,_,rfl,⟨x6,rfl,_⟩,⟨_,_,rfl,⟨x7,rfl,_⟩,⟨_,_,rfl,⟨x8,rfl⟩,⟨_,_,rfl,⟨x9,rfl,wx9,tx9⟩,⟨_,_,rfl,⟨x10,rfl,wx10⟩,rfl⟩⟩⟩⟩⟩⟩⟩⟩⟩⟩:=h
 exact ⟨x1,x2,x3,x4,x5,x6,x7,x8,x9,x10,rfl,wx9,tx9,wx10⟩
theorem kji (x1:Int) (x2:Int) (x3:Int) (x4:Int) (x5:Int) (x6:Int) (x7:Int) (x8:Bool) (x9:Rw) (x10:BA) (wx9:x9.length≤1048576) (tx9:∀r∈x9,typL ki r):t78 x1 x2 x3 x4 x5 x6 x7 x8 x9 x10 x1 x2 x3 x4 x5 x6 x7 x8 x9 x10=some ([.one (.b true)],[]):=by
 simp only [t78,ta78,bne_self_eq_false,bnt,bft,if_false,ksc x9 wx9 tx9,zr38,zo38,okR,isVs,isV,isD,isDs,isOs,resC,outC,nthR,nthO,cellsDV,nthD,asB,asI,asS,asL,bat,bta,BEq.rfl,ka,decide_true]
theorem kjh (b0 b1:Bool) (q1:Int→Bool→Bool→Rs) (q2:Int→Bool→SV→Rs) (h2:∀a b c,q2 a b c=some ([.one (.b true)],[])) (l:Rw) (h:∀r∈l,typL klb r) (hs:∀r∈l,szdL klb r) (hl:l.length < 4611686018427387904):∀(k i m:Nat) (v w:SV),i+k=l.length→k < m →
  la36o1 t78 l l b0 b1 q1 q2 m i v w=some ([.one (.b true)],[]):=by
 intro k
 induction k with
 | zero =>
  intro i m v w e hm
  obtain ⟨m,rfl⟩:∃m',m=m' + 1:=⟨m - 1,by omega⟩
  have ei:decide ((i:Int) < (l.length:Int))=false:=by simp;omega
  simp only [la36o1,ei,h2]
  simp
 | succ k ih =>
  intro i m v w e hm
  obtain ⟨m,rfl⟩:∃m',m=m' + 1:=⟨m - 1,by omega⟩
  have hr:=kqb h (i:=i) (by omega)
  obtain ⟨c1,c2,c3,c4,c5,c6,c7,c8,c9,c10,er,wc9,tc9,wc10⟩:=kud hr
  have hso:=hs _ (kmd (l:=l) (i:=i) (by omega))
  rw [er] at hso
  have e1:decide ((i:Int) < (l.length:Int))=true:=by simp;omega
  have e2:decide ((0:Int)≤(i:Int))=true:=by simp
  have ez:isRow z110 [.i .i64 c1,.i .i64 c2,.i .i64 c3,.i .i64 c4,.i .i64 c5,.i .i64 c6,.i .i64 c7,.b c8,.l c9,.s c10]=true:=rfl
  have ew:okR zr78 zo78 (some ([.one (.b true)],[]))=true:=rfl
  simp only [la36o1,e1,e2,itn,er,ez,nthD,asI,asS,asB,asL,kji c1 c2 c3 c4 c5 c6 c7 c8 c9 c10 hso.2.2.2.2.2.2.2.2.1.1 tc9,resC,nthR,cellsDV,ew,bat,ka,if_true,bnt,bft,if_false]
  rw [kg i (by omega)]
  exact ih (i+1) m _ _ (by omega) (by omega)
theorem kyh (l:Rw) (hl:l.length≤1048576) (h:∀r∈l,typL klb r) (hs:∀r∈l,szdL klb r):t36 l l=some ([.one (.b true)],[]):=by
 have:=kjh false false (fun _ _ _=>some ([.one (.b false)],[])) (fun _ _ _=>some ([.one (.b true)],[])) (fun _ _ _=>rfl) l h hs (by omega) l.length 0 KK .undef .undef (by omega) (by rw [kl];omega)
 simpa [t36,ta36] using this
theorem koh (x1:Int) (x2:Int) (x3:Int) (x4:Int) (x5:Int) (x6:Int) (x7:Int) (x8:Int) (x9:Rw) (x10:Int) (x11:Rw) (x12:Rw) (x13:Rw) (wx9:x9.length≤1048576) (tx9:∀r∈x9,typL ki r) (wx11:x11.length≤1048576) (tx11:∀r∈x11,typL kr r) (wx12:x12.length≤1048576) (tx12:∀r∈x12,typL kr r) (wx13:x13.length≤1048576) (tx13:∀r∈x13,typL kr r):t21 x1 x2 x3 x4 x5 x6 x7 x8 x9 x10 x11 x12 x13 x1 x2 x3 x4 x5 x6 x7 x8 x9 x10 x11 x12 x13=some ([.one (.b true)],[]):=by
 simp only [t21,ta21,bne_self_eq_false,bnt,bft,if_false,ksc x9 wx9 tx9,kld x11 wx11 tx11,kld x12 wx12 tx12,kld x13 wx13 tx13,zr38,zo38,zr60,zo60,okR,isVs,isV,isD,isDs,isOs,resC,outC,nthR,nthO,cellsDV,nthD,asB,asI,asS,asL,bat,bta,BEq.rfl,ka,decide_true]
abbrev ky:List Sh:=[.i .i64,.i .i64,.b,.i .i64,.i .i64,.i .i64,.i .i64,.i .i64,.i .i64,.i .i64,.i .i64,.l [.i .i64,.s],.i .i64,.l [.i .i64],.l [.i .i64],.l [.i .i64],.l [.i .i64,.l [.i .i64,.i .i64,.i .i64,.i .i64,.i .i64,.s,.l [.s,.i .i64],.i .i64,.i .i64],.i .i64,.l [.i .i64,.i .i64,.i .i64,.i .i64,.i .i64],.l [.i .i64,.i .i64,.i .i64,.i .i64,.s]],.i .i64,.i .i64,.s,.i .i64,.i .i64,.i .i64,.i .i64,.s,.l [.i .i64,.s],.l [.i .i64,.i .i64,.i .i64,.i .i64,.s],.l [.i .i64,.i .i64,.i .i64,.i .i64,.s,.s,.i .i64,.i .i64,.s],.i .i64,.i .i64]
theorem kee {r:List D} (h:typL ky r):∃x1 x2 x3 x4 x5 x6 x7 x8 x9 x10 x11 x12 x13 x14 x15 x16 x17 x18 x19 x20 x21 x22 x23 x24 x25 x26 x27 x28 x29 x30,r=[.i .i64 x1,.i .i64 x2,.b x3,.i .i64 x4,.i .i64 x5,.i .i64 x6,.i .i64 x7,.i .i64 x8,.i .i64 x9,.i .i64 x10,.i .i64 x11,.l x12,.i .i64 x13,.l x14,.l x15,.l x16,.l x17,.i .i64 x18,.i .i64 x19,.s x20,.i .i64 x21,.i .i64 x22,.i .i64 x23,.i .i64 x24,.s x25,.l x26,.l x27,.l x28,.i .i64 x29,.i .i64 x30]∧x12.length≤maxLen∧(∀r∈x12,typL ki r)∧x14.length≤maxLen∧(∀r∈x14,typL kr r)∧x15.length≤maxLen∧(∀r∈x15,typL kr r)∧x16.length≤maxLen∧(∀r∈x16,typL kr r)∧x17.length≤maxLen∧(∀r∈x17,typL ko r)∧x20.size≤maxLen∧x25.size≤maxLen∧x26.length≤maxLen∧(∀r∈x26,typL ki r)∧x27.length≤maxLen∧(∀r∈x27,typL kcc r)∧x28.length≤maxLen∧(∀r∈x28,typL kdd r):=by
 obtain ⟨_,_,rfl,⟨x1,rfl,_⟩,⟨_,_,rfl,⟨x2,rfl,_⟩,⟨_,_,rfl,⟨x3,rfl⟩,⟨_,_,rfl,⟨x4,rfl,_⟩,⟨_,_,rfl,⟨x5,rfl,_⟩,⟨_,_,rfl,⟨x6,rfl,_⟩,⟨_,_,rfl,⟨x7,rfl,_⟩,⟨_,_,rfl,⟨x8,rfl,_⟩,⟨_,_,rfl,⟨x9,rfl,_⟩,⟨_,_,rfl,⟨x10,rfl,_⟩,⟨_,_,rfl,⟨x11,rfl,_⟩,⟨_,_,rfl,⟨x12,rfl,wx12,tx12⟩,⟨_,_,rfl,⟨x13,rfl,_⟩,⟨_,_,rfl,⟨x14,rfl,wx14,tx14⟩,⟨_,_,rfl,⟨x15,rfl,wx15,tx15⟩,⟨_,_,rfl,⟨x16,rfl,wx16,tx16⟩,⟨_,_,rfl,⟨x17,rfl,wx17,tx17⟩,⟨_,_,rfl,⟨x18,rfl,_⟩,⟨_,_,rfl,⟨x19,rfl,_⟩,⟨_,_,rfl,⟨x20,rfl,wx20⟩,⟨_,_,rfl,⟨x21,rfl,_⟩,⟨_,_,rfl,⟨x22,rfl,_⟩,⟨_,_,rfl,⟨x23,rfl,_⟩,⟨_,_,rfl,⟨x24,rfl,_⟩,⟨_,_,rfl,⟨x25,rfl,wx25⟩,⟨_,_,rfl,⟨x26,rfl,wx26,tx26⟩,⟨_,_,rfl,⟨x27,rfl,wx27,tx27⟩,⟨_,_,rfl,⟨x28,rfl,wx28,tx28⟩,⟨_,_,rfl,⟨x29,rfl,_⟩,⟨_,_,rfl,⟨x30,rfl,_⟩,rfl⟩⟩⟩⟩⟩⟩⟩⟩⟩⟩⟩⟩⟩⟩⟩⟩⟩⟩⟩⟩⟩⟩⟩⟩⟩⟩⟩⟩⟩⟩:=h
 exact ⟨x1,x2,x3,x4,x5,x6,x7,x8,x9,x10,x11,x12,x13,x14,x15,x16,x17,x18,x19,x20,x21,x22,x23,x24,x25,x26,x27,x28,x29,x30,rfl,wx12,tx12,wx14,tx14,wx15,tx15,wx16,tx16,wx17,tx17,wx20,wx25,wx26,tx26,wx27,tx27,wx28,tx28⟩
theorem kbi (x1:Int) (x2:Int) (x3:Bool) (x4:Int) (x5:Int) (x6:Int) (x7:Int) (x8:Int) (x9:Int) (x10:Int) (x11:Int) (x12:Rw) (x13:Int) (x14:Rw) (x15:Rw) (x16:Rw) (x17:Rw) (x18:Int) (x19:Int) (x20:BA) (x21:Int) (x22:Int) (x23:Int) (x24:Int) (x25:BA) (x26:Rw) (x27:Rw) (x28:Rw) (x29:Int) (x30:Int) (wx12:x12.length≤1048576) (tx12:∀r∈x12,typL ki r) (wx14:x14.length≤1048576) (tx14:∀r∈x14,typL kr r) (wx15:x15.length≤1048576) (tx15:∀r∈x15,typL kr r) (wx16:x16.length≤1048576) (tx16:∀r∈x16,typL kr r) (wx17:x17.length≤1048576) (tx17:∀r∈x17,typL ko r) (sx17:∀r∈x17,szdL ko r) (wx26:x26.length≤1048576) (tx26:∀r∈x26,typL ki r) (wx27:x27.length≤1048576) (tx27:∀r∈x27,typL kcc r) (wx28:x28.length≤1048576) (tx28:∀r∈x28,typL kdd r):t7 x1 x2 x3 x4 x5 x6 x7 x8 x9 x10 x11 x12 x13 x14 x15 x16 x17 x18 x19 x20 x21 x22 x23 x24 x25 x26 x27 x28 x29 x30 x1 x2 x3 x4 x5 x6 x7 x8 x9 x10 x11 x12 x13 x14 x15 x16 x17 x18 x19 x20 x21 x22 x23 x24 x25 x26 x27 x28 x29 x30=some ([.one (.b true)],[]):=by
 simp only [t7,ta7,bne_self_eq_false,bnt,bft,if_false,koh x4 x5 x6 x7 x8 x9 x10 x11 x12 x13 x14 x15 x16 wx12 tx12 wx14 tx14 wx15 tx15 wx16 tx16,kgf x17 wx17 tx17 sx17,kzd x18 x19 x20 , kvg x21 x22 x23 x24 x25 x26 x27 wx26 tx26 wx27 tx27,kbh x28 wx28 tx28,zr21,zo21,zr22,zo22,zr23,zo23,zr24,zo24,zr25,zo25,okR,isVs,isV,isD,isDs,isOs,resC,outC,nthR,nthO,cellsDV,nthD,asB,asI,asS,asL,bat,bta,BEq.rfl,ka,decide_true]
theorem kch (b0 b1:Bool) (q1:Int→Bool→Bool→Rs) (q2:Int→Bool→SV→Rs) (h2:∀a b c,q2 a b c=some ([.one (.b true)],[])) (l:Rw) (h:∀r∈l,typL ky r) (hs:∀r∈l,szdL ky r) (hl:l.length < 4611686018427387904):∀(k i m:Nat) (v w:SV),i+k=l.length→k < m →
  la35o1 t7 l l b0 b1 q1 q2 m i v w=some ([.one (.b true)],[]):=by
 intro k
 induction k with
 | zero =>
  intro i m v w e hm
  obtain ⟨m,rfl⟩:∃m',m=m' + 1:=⟨m - 1,by omega⟩
  have ei:decide ((i:Int) < (l.length:Int))=false:=by simp;omega
  simp only [la35o1,ei,h2]
  simp
 | succ k ih =>
  intro i m v w e hm
  obtain ⟨m,rfl⟩:∃m',m=m' + 1:=⟨m - 1,by omega⟩
  have hr:=kqb h (i:=i) (by omega)
  obtain ⟨c1,c2,c3,c4,c5,c6,c7,c8,c9,c10,c11,c12,c13,c14,c15,c16,c17,c18,c19,c20,c21,c22,c23,c24,c25,c26,c27,c28,c29,c30,er,wc12,tc12,wc14,tc14,wc15,tc15,wc16,tc16,wc17,tc17,wc20,wc25,wc26,tc26,wc27,tc27,wc28,tc28⟩:=kee hr
  have hso:=hs _ (kmd (l:=l) (i:=i) (by omega))
  rw [er] at hso
  have e1:decide ((i:Int) < (l.length:Int))=true:=by simp;omega
  have e2:decide ((0:Int)≤(i:Int))=true:=by simp
  have ez:isRow z36 [.i .i64 c1,.i .i64 c2,.b c3,.i .i64 c4,.i .i64 c5,.i .i64 c6,.i .i64 c7,.i .i64 c8,.i .i64 c9,.i .i64 c10,.i .i64 c11,.l c12,.i .i64 c13,.l c14,.l c15,.l c16,.l c17,.i .i64 c18,.i .i64 c19,.s c20,.i .i64 c21,.i .i64 c22,.i .i64 c23,.i .i64 c24,.s c25,.l c26,.l c27,.l c28,.i .i64 c29,.i .i64 c30]=true:=rfl
  have ew:okR zr7 zo7 (some ([.one (.b true)],[]))=true:=rfl
  simp only [la35o1,e1,e2,itn,er,ez,nthD,asI,asS,asB,asL,kbi c1 c2 c3 c4 c5 c6 c7 c8 c9 c10 c11 c12 c13 c14 c15 c16 c17 c18 c19 c20 c21 c22 c23 c24 c25 c26 c27 c28 c29 c30 hso.2.2.2.2.2.2.2.2.2.2.2.1.1 tc12 hso.2.2.2.2.2.2.2.2.2.2.2.2.2.1.1 tc14 hso.2.2.2.2.2.2.2.2.2.2.2.2.2.2.1.1 tc15 hso.2.2.2.2.2.2.2.2.2.2.2.2.2.2.2.1.1 tc16 hso.2.2.2.2.2.2.2.2.2.2.2.2.2.2.2.2.1.1 tc17 hso.2.2.2.2.2.2.2.2.2.2.2.2.2.2.2.2.1.2 hso.2.2.2.2.2.2.2.2.2.2.2.2.2.2.2.2.2.2.2.2.2.2.2.2.2.1.1 tc26 hso.2.2.2.2.2.2.2.2.2.2.2.2.2.2.2.2.2.2.2.2.2.2.2.2.2.2.1.1 tc27 hso.2.2.2.2.2.2.2.2.2.2.2.2.2.2.2.2.2.2.2.2.2.2.2.2.2.2.2.1.1 tc28,resC,nthR,cellsDV,ew,bat,ka,if_true,bnt,bft,if_false]
  rw [kg i (by omega)]
  exact ih (i+1) m _ _ (by omega) (by omega)
theorem kjg (l:Rw) (hl:l.length≤1048576) (h:∀r∈l,typL ky r) (hs:∀r∈l,szdL ky r):t35 l l=some ([.one (.b true)],[]):=by
 have:=kch false false (fun _ _ _=>some ([.one (.b false)],[])) (fun _ _ _=>some ([.one (.b true)],[])) (fun _ _ _=>rfl) l h hs (by omega) l.length 0 KK .undef .undef (by omega) (by rw [kl];omega)
 simpa [t35,ta35] using this
abbrev kqd:List Sh:=[.i .i64,.i .i64,.i .i64,.b,.i .i64,.s]
theorem kqj {r:List D} (h:typL kqd r):∃x1 x2 x3 x4 x5 x6,r=[.i .i64 x1,.i .i64 x2,.i .i64 x3,.b x4,.i .i64 x5,.s x6]∧x6.size≤maxLen:=by
 obtain ⟨_,_,rfl,⟨x1,rfl,_⟩,⟨_,_,rfl,⟨x2,rfl,_⟩,⟨_,_,rfl,⟨x3,rfl,_⟩,⟨_,_,rfl,⟨x4,rfl⟩,⟨_,_,rfl,⟨x5,rfl,_⟩,⟨_,_,rfl,⟨x6,rfl,wx6⟩,rfl⟩⟩⟩⟩⟩⟩:=h
 exact ⟨x1,x2,x3,x4,x5,x6,rfl,wx6⟩
theorem kxh (x1:Int) (x2:Int) (x3:Int) (x4:Bool) (x5:Int) (x6:BA)  : t79 x1 x2 x3 x4 x5 x6 x1 x2 x3 x4 x5 x6=some ([.one (.b true)],[]):=by
 simp only [t79,bne_self_eq_false,bnt,bft,if_false,okR,isVs,isV,isD,isDs,isOs,resC,outC,nthR,nthO,cellsDV,nthD,asB,asI,asS,asL,bat,bta,BEq.rfl,ka,decide_true]
theorem krg (b0 b1:Bool) (q1:Int→Bool→Bool→Rs) (q2:Int→Bool→SV→Rs) (h2:∀a b c,q2 a b c=some ([.one (.b true)],[])) (l:Rw) (h:∀r∈l,typL kqd r) (hl:l.length < 4611686018427387904):∀(k i m:Nat) (v w:SV),i+k=l.length→k < m →
  la37o1 t79 l l b0 b1 q1 q2 m i v w=some ([.one (.b true)],[]):=by
 intro k
 induction k with
 | zero =>
  intro i m v w e hm
  obtain ⟨m,rfl⟩:∃m',m=m' + 1:=⟨m - 1,by omega⟩
  have ei:decide ((i:Int) < (l.length:Int))=false:=by simp;omega
  simp only [la37o1,ei,h2]
  simp
 | succ k ih =>
  intro i m v w e hm
  obtain ⟨m,rfl⟩:∃m',m=m' + 1:=⟨m - 1,by omega⟩
  have hr:=kqb h (i:=i) (by omega)
  obtain ⟨c1,c2,c3,c4,c5,c6,er,wc6⟩:=kqj hr
  have e1:decide ((i:Int) < (l.length:Int))=true:=by simp;omega
  have e2:decide ((0:Int)≤(i:Int))=true:=by simp
  have ez:isRow z113 [.i .i64 c1,.i .i64 c2,.i .i64 c3,.b c4,.i .i64 c5,.s c6]=true:=rfl
  have ew:okR zr79 zo79 (some ([.one (.b true)],[]))=true:=rfl
  simp only [la37o1,e1,e2,itn,er,ez,nthD,asI,asS,asB,asL,kxh c1 c2 c3 c4 c5 c6,resC,nthR,cellsDV,ew,bat,ka,if_true,bnt,bft,if_false]
  rw [kg i (by omega)]
  exact ih (i+1) m _ _ (by omega) (by omega)
theorem kdh (l:Rw) (hl:l.length≤1048576) (h:∀r∈l,typL kqd r):t37 l l=some ([.one (.b true)],[]):=by
 have:=krg false false (fun _ _ _=>some ([.one (.b false)],[])) (fun _ _ _=>some ([.one (.b true)],[])) (fun _ _ _=>rfl) l h (by omega) l.length 0 KK .undef .undef (by omega) (by rw [kl];omega)
 simpa [t37,ta37] using this
theorem kph (x1:Rw) (x2:Rw) (x3:Rw) (x4:Rw) (x5:Bool) (wx1:x1.length≤1048576) (tx1:∀r∈x1,typL ky r) (sx1:∀r∈x1,szdL ky r) (wx2:x2.length≤1048576) (tx2:∀r∈x2,typL klb r) (sx2:∀r∈x2,szdL klb r) (wx3:x3.length≤1048576) (tx3:∀r∈x3,typL kqd r) (wx4:x4.length≤1048576) (tx4:∀r∈x4,typL ki r):t12 x1 x2 x3 x4 x5 x1 x2 x3 x4 x5=some ([.one (.b true)],[]):=by
 simp only [t12,ta12,bne_self_eq_false,bnt,bft,if_false,kjg x1 wx1 tx1 sx1,kyh x2 wx2 tx2 sx2,kdh x3 wx3 tx3,ksc x4 wx4 tx4,zr35,zo35,zr36,zo36,zr37,zo37,zr38,zo38,okR,isVs,isV,isD,isDs,isOs,resC,outC,nthR,nthO,cellsDV,nthD,asB,asI,asS,asL,bat,bta,BEq.rfl,ka,decide_true]
theorem krb {sh:List Sh} {l:Rw} (h:∀r∈l,typL sh r) (z:List D) (hz:∀r,typL sh r→isRow z r=true) (i:Nat) (hi:i < l.length):isRow z (l.getD i [])=true:=hz _ (kqb h hi)
theorem kfd:∀r,typL ki r→isRow z116 r=true:=fun r h=>by
 obtain ⟨a,b,rfl,_⟩:=kyc h;rfl
def runB (l:Rw) (t:Int):Nat→Nat→Int→Bool
 | 0,_,_=>true
 | k+1,i,p=>decide (p≤asI (nthD (l.getD i []) 0)∧asI (nthD (l.getD i []) 0)≤t∧((asS (nthD (l.getD i []) 1)).size:Int)≤1600)&&runB l t k (i+1) (asI (nthD (l.getD i []) 0))
def kcd (a b:Int):Bool:=decide ((a=0∧b=0)∨(1≤a∧a≤100000∧1≤b∧b≤100000))
theorem kmi (a b:Int):t108 a b=some ([.one (.b (kcd a b))],[]):=by
 simp only [t108,ta108,kad,zr34,zo34,okR,isVs,isV,isD,isOs,resC,nthR,cellsDV,nthD,asB,bat,bto,ka]
 split<;>(apply kub;unfold kcd;rw [Bool.eq_iff_iff];simp_all;try omega)
theorem kqf (s7:BA) (b9:Bool) (q1:Int→BA→Bool→Rs) (h1:∀n (s:BA) b,s.size≤1000→∃x,q1 n s b=some ([.one (.s x)],[])):∀(k m:Nat) (n:Int) (s:BA) (v:SV),0≤n→n < 10 ^ k→n < 4611686018427387904→k < m→s.size+k≤1000 →
  ∃x,l71o1 s7 b9 q1 m n s v=some ([.one (.s x)],[]):=by
 intro k
 induction k with
 | zero =>
  intro m n s v h0 hn h2 hm hs
  obtain ⟨m,rfl⟩:∃m',m=m' + 1:=⟨m - 1,by omega⟩
  have e:decide (n > 0)=false:=by simp;omega
  simp only [l71o1,e,bft,if_false]
  exact h1 _ _ _ (by omega)
 | succ k ih =>
  intro m n s v h0 hn h2 hm hs
  obtain ⟨m,rfl⟩:∃m',m=m' + 1:=⟨m - 1,by omega⟩
  by_cases e:n > 0
  ·have e':decide (n > 0)=true:=decide_eq_true e
   have hb:∀x:Int,isBytes [[D.i .u8 x]]=true:=fun _=>rfl
   have hz:∀x:Int,(⟨(bytesD [[D.i .u8 x]]).toArray⟩:BA).size=1:=fun _=>rfl
   simp only [l71o1,e',if_true,hb,ka,hz]
   rw [kme (decide_eq_true (by unfold lim;omega)),Int.tdiv_eq_ediv_of_nonneg h0,kb (n / 10) (by omega)]
   refine ih m (n / 10) _ _ (by omega) ?_ (by omega) (by omega) (by rw [ByteArray.size_append,hz];omega)
   rw [Int.ediv_lt_iff_lt_mul (by omega)]
   rw [Int.pow_succ] at hn
   exact hn
  ·have e':decide (n > 0)=false:=decide_eq_false e
   simp only [l71o1,e',bft,if_false]
   exact h1 _ _ _ (by omega)
noncomputable def mkT (k:Int):BA:=asS (resC (t71 k) 0 0)
theorem kk (k:Int) (h:k < 4611686018427387904):t71 k=some ([.one (.s (mkT k))],[]):=by
 have:∃x,t71 k=some ([.one (.s x)],[]):=by
  unfold t71
  by_cases e:k≤0
  ·have e':decide (k≤0)=true:=decide_eq_true e
   simp only [e',if_true];exact ⟨_,rfl⟩
  ·have e':decide (k≤0)=false:=decide_eq_false e
   simp only [e',bft,if_false]
   refine kqf _ _ _ ?_ 20 KK k _ _ (by omega) (by omega) h (by rw [kl];omega) (by show 0+20≤1000;omega)
   intro n s b hs
   have e0:(⟨#[109]⟩:BA).size=1:=rfl
   simp only [e0]
   rw [kme (decide_eq_true (by unfold lim;omega))]
   exact ⟨_,rfl⟩
 obtain ⟨x,hx⟩:=this
 have:mkT k=x:=by unfold mkT;rw [hx];rfl
 rw [this,hx]
theorem kx {x:BA}:okR zr71 zo71 (some ([.one (.s x)],[]))=true:=rfl
theorem kw {x:BA}:asS (resC (some ([.one (.s x)],[])) 0 0)=x:=rfl
theorem kd (a b:Rw) (r ys:List D) (i off:Nat) (h:i=a.length):stR (a++r :: b) i off ys=a++(r.take off++ys++r.drop (off+ys.length)) :: b:=by
 subst h;unfold stR;exact koe _ a r b
theorem kmb (a b:Rw) (r:List D) (i:Nat) (h:i=a.length):(a++r :: b).getD i []=r:=by
 subst h;simp [List.getD]
theorem kn:∀(es:List Sh) (r:List D),typL es r→r.length=es.length
 | [],r,h=>by rw [show r=[] from h];rfl
 | e :: es,r,h=>by
  obtain ⟨d,r',rfl,_,h⟩:=h
  simp only [List.length_cons,kn es r' h]
theorem kic {n:Nat} {xs:Rw} (h:∀r∈xs,r.length=n):fstSz n xs=true:=by
 unfold fstSz
 cases xs with
 | nil=>simp
 | cons r b=>simpa using h r (by simp)
theorem kak (a b:Rw) (i:Nat) (h:i=a.length) (c1 c2 d:D):stR (a++[c1,c2] :: b) i 0 [d]=a++[d,c2] :: b:=kd a b _ _ i 0 h
theorem kyj (a b:Rw) (i:Nat) (h:i=a.length) (c1 c2 d:D):stR (a++[c1,c2] :: b) i 1 [d]=a++[c1,d] :: b:=kd a b _ _ i 1 h
theorem len2 {r:List D} (h:r.length=2):∃c1 c2,r=[c1,c2]:=by
 match r,h with
 | [c1,c2],_=>exact ⟨c1,c2,rfl⟩
noncomputable def ktb (k:Int):List D:=[.i .i64 (k),.s (mkT (k+1))]
noncomputable def km:Int→Rw→Rw
 | _,[]=>[]
 | k,_ :: b=>ktb k :: km (k+1+1) b
theorem kie (n8:Int) (q:Int→Int→Bool→Rw→Rs) (hq:∀a b c d,q a b c d=some ([.one (.i .i64 a)],[[.l d]])):∀(b a:Rw) (m:Nat) (k:Int) (v0:SV),(∀r∈b,r.length=2)→b.length < m→a.length+b.length≤4000000→0≤k→k+2 * (b.length:Int)≤4000000000000000000 →
  la42o0 t71 n8 q m k (a.length:Int) v0 (a++b)=some ([.one (.i .i64 (k+2 * (b.length:Int)))],[[.l (a++km k b)]]):=by
 intro b
 induction b with
 | nil =>
  intro a m k v0 h hm hl h0 hk
  obtain ⟨m,rfl⟩:∃m',m=m' + 1:=⟨m - 1,by omega⟩
  have e:decide ((a.length:Int) < ((a++([]:Rw)).length:Int))=false:=by simp
  have e2:k+2 * ((([]:Rw).length:Nat):Int)=k:=by simp
  simp only [la42o0,e,bft,if_false,hq,e2,km]
 | cons r b ih =>
  intro a m k v0 h hm hl h0 hk
  obtain ⟨m,rfl⟩:∃m',m=m' + 1:=⟨m - 1,by omega⟩
  simp only [List.length_cons] at hm hl hk
  obtain ⟨c1,c2,rfl⟩:=len2 (h r (List.mem_cons_self ..))
  have hb:∀r∈b,r.length=2:=fun r hr=>h r (List.mem_cons_of_mem _ hr)
  have e1:∀r:List D,decide ((a.length:Int) < ((a++r :: b).length:Int))=true:=fun r=>decide_eq_true (by simp;omega)
  have e0:decide (0≤(a.length:Int))=true:=decide_eq_true (by omega)
  have p1:∀r:List D,decide (1≤2∧a.length < (a++r :: b).length)=true:=fun r=>decide_eq_true (by simp)
  have p2:∀r:List D,decide (2≤2∧a.length < (a++r :: b).length)=true:=fun r=>decide_eq_true (by simp)
  have u1:w64 (k+1)=k+1:=kb _ (by omega)
  have u2:w64 (k+1+1)=k+1+1:=kb _ (by omega)
  have t1:=kk (k+1) (by omega)
  have hw:=kg a.length (by omega)
  simp only [la42o0,e1,e0,if_true,itn,p1,p2,u1,u2,t1,kx,kw,kak a b _ rfl,kyj a b _ rfl,bat,ka,hw]
  have:=fun (z0:SV)=>ih (a++[ktb k]) m (k+1+1) z0 hb (by omega) (by simp;omega) (by omega) (by omega)
  have e3:(a++[ktb k]).length=a.length+1:=by simp
  simp only [e3,List.append_assoc] at this
  have e4:k+2 * ((([c1,c2] :: b).length:Nat):Int)=k+1+1+2 * (b.length:Int):=by simp only [List.length_cons];omega
  have e5:a++km k ([c1,c2] :: b)=(a++[ktb k])++km (k+1+1) b:=by simp [km]
  rw [e4,e5,List.append_assoc]
  exact this _
theorem krc (l:Rw) (h:∀r∈l,r.length=2) (hl:l.length≤4000000) (k:Int) (h0:0≤k) (hk:k+2 * (l.length:Int)≤4000000000000000000):t42 l k=some ([.one (.i .i64 (k+2 * (l.length:Int)))],[[.l (km k l)]]):=by
 unfold t42 ta42
 exact kie _ _ (fun _ _ _ _=>rfl) l [] KK k _ h (by rw [kl];omega) (by simpa using hl) h0 hk
theorem kpe (n9:Int) (q1:Int→Int→Bool→Bool→SV→Rs) (q2:Int→Int→Bool→Bool→Bool→Rs) (q3:Int→Int→Bool→SV→SV→Rs) (hq:∀x0 x1 x2 x3 x4,q3 x0 x1 x2 x3 x4=some ([.one (.i .i64 x0)],[])):∀(b a:Rw) (m:Nat) (k:Int) (v0 v1 v2:SV) (L:Rw) (i:Int),L=a++km k b→i=(a.length:Int)→b.length < m→a.length+b.length≤4000000→0≤k→k+2 * (b.length:Int)≤4000000000000000000 →
  la46o0 t71 L n9 q1 q2 q3 m k i v0 v1 v2=some ([.one (.i .i64 (k+2 * (b.length:Int)))],[]):=by
 intro b
 induction b with
 | nil =>
  intro a m k v0 v1 v2 L i hL hi hm hl h0 hk
  subst hL hi
  obtain ⟨m,rfl⟩:∃m',m=m' + 1:=⟨m - 1,by omega⟩
  have e:decide ((a.length:Int) < ((a++([]:Rw)).length:Int))=false:=by simp
  have e2:k+2 * ((([]:Rw).length:Nat):Int)=k:=by simp
  rw [show km k []=[] from rfl]
  simp only [la46o0,e,bft,if_false,hq,e2]
 | cons r b ih =>
  intro a m k v0 v1 v2 L i hL hi hm hl h0 hk
  subst hL hi
  obtain ⟨m,rfl⟩:∃m',m=m' + 1:=⟨m - 1,by omega⟩
  simp only [List.length_cons] at hm hl hk
  have e1:∀(r:List D) (b:Rw),decide ((a.length:Int) < ((a++r :: b).length:Int))=true:=fun r b=>decide_eq_true (by simp;omega)
  have e0:decide (0≤(a.length:Int))=true:=decide_eq_true (by omega)
  have eg:∀(r:List D) (b:Rw),(a++r :: b).getD a.length []=r:=fun r b=>kmb a b r _ rfl
  have u1:w64 (k+1)=k+1:=kb _ (by omega)
  have u2:w64 (k+1+1)=k+1+1:=kb _ (by omega)
  have t1:=kk (k+1) (by omega)
  have hw:=kg a.length (by omega)
  have this:=fun (z0:SV) (z1:SV) (z2:SV)=>ih (a++[ktb k]) m (k+1+1) z0 z1 z2 _ _ rfl rfl (by omega) (by simp;omega) (by omega) (by omega)
  have e3:(a++[ktb k]).length=a.length+1:=by simp
  simp only [e3,List.append_assoc] at this
  have e4:k+2 * (((r :: b).length:Nat):Int)=k+1+1+2 * (b.length:Int):=by simp only [List.length_cons];omega
  have e5:a++km k (r :: b)=a++ktb k :: km (k+1+1) b:=rfl
  rw [e5]
  have ez:isRow z116 (ktb k)=true:=rfl
  have d0:asI (nthD (ktb k) 0)=k:=rfl
  have d1:asS (nthD (ktb k) 1)=mkT (k+1):=rfl
  simp only [la46o0,e1,e0,if_true,itn,eg,ez,d0,d1,u1,u2,t1,kx,kw,bne_self_eq_false,beq_self_eq_true,bnt,bft,if_false,bat,ka,hw]
  rw [e4]
  exact this _ _ _
theorem kqc (l:Rw) (hl:l.length≤4000000) (k:Int) (h0:0≤k) (hk:k+2 * (l.length:Int)≤4000000000000000000):t46 (km k l) k=some ([.one (.i .i64 (k+2 * (l.length:Int)))],[]):=by
 unfold t46 ta46
 exact kpe _ _ _ _ (fun _ _ _ _ _=>rfl) l [] KK k _ _ _ _ _ rfl rfl (by rw [kl];omega) (by simpa using hl) h0 hk
theorem kom (a b:Rw) (i:Nat) (h:i=a.length) (c1 d:D):stR (a++[c1] :: b) i 0 [d]=a++[d] :: b:=kd a b _ _ i 0 h
theorem len1 {r:List D} (h:r.length=1):∃c1,r=[c1]:=by
 match r,h with
 | [c1],_=>exact ⟨c1,rfl⟩
noncomputable def kkc (k:Int):List D:=[.i .i64 (k)]
noncomputable def kv:Int→Rw→Rw
 | _,[]=>[]
 | k,_ :: b=>kkc k :: kv (k+1) b
theorem klf (n8:Int) (q:Int→Int→Bool→Rw→Rs) (hq:∀a b c d,q a b c d=some ([.one (.i .i64 a)],[[.l d]])):∀(b a:Rw) (m:Nat) (k:Int) (v0:SV),(∀r∈b,r.length=1)→b.length < m→a.length+b.length≤4000000→0≤k→k+1 * (b.length:Int)≤4000000000000000000 →
  l65o0 n8 q m k (a.length:Int) v0 (a++b)=some ([.one (.i .i64 (k+1 * (b.length:Int)))],[[.l (a++kv k b)]]):=by
 intro b
 induction b with
 | nil =>
  intro a m k v0 h hm hl h0 hk
  obtain ⟨m,rfl⟩:∃m',m=m' + 1:=⟨m - 1,by omega⟩
  have e:decide ((a.length:Int) < ((a++([]:Rw)).length:Int))=false:=by simp
  have e2:k+1 * ((([]:Rw).length:Nat):Int)=k:=by simp
  simp only [l65o0,e,bft,if_false,hq,e2,kv]
 | cons r b ih =>
  intro a m k v0 h hm hl h0 hk
  obtain ⟨m,rfl⟩:∃m',m=m' + 1:=⟨m - 1,by omega⟩
  simp only [List.length_cons] at hm hl hk
  obtain ⟨c1,rfl⟩:=len1 (h r (List.mem_cons_self ..))
  have hb:∀r∈b,r.length=1:=fun r hr=>h r (List.mem_cons_of_mem _ hr)
  have e1:∀r:List D,decide ((a.length:Int) < ((a++r :: b).length:Int))=true:=fun r=>decide_eq_true (by simp;omega)
  have e0:decide (0≤(a.length:Int))=true:=decide_eq_true (by omega)
  have p1:∀r:List D,decide (1≤1∧a.length < (a++r :: b).length)=true:=fun r=>decide_eq_true (by simp)
  have u1:w64 (k+1)=k+1:=kb _ (by omega)
  have hw:=kg a.length (by omega)
  simp only [l65o0,e1,e0,if_true,itn,p1,u1,kom a b _ rfl,bat,ka,hw]
  have:=fun (z0:SV)=>ih (a++[kkc k]) m (k+1) z0 hb (by omega) (by simp;omega) (by omega) (by omega)
  have e3:(a++[kkc k]).length=a.length+1:=by simp
  simp only [e3,List.append_assoc] at this
  have e4:k+1 * ((([c1] :: b).length:Nat):Int)=k+1+1 * (b.length:Int):=by simp only [List.length_cons];omega
  have e5:a++kv k ([c1] :: b)=(a++[kkc k])++kv (k+1) b:=by simp [kv]
  rw [e4,e5,List.append_assoc]
  exact this _
theorem khd (l:Rw) (h:∀r∈l,r.length=1) (hl:l.length≤4000000) (k:Int) (h0:0≤k) (hk:k+1 * (l.length:Int)≤4000000000000000000):t65 l k=some ([.one (.i .i64 (k+1 * (l.length:Int)))],[[.l (kv k l)]]):=by
 unfold t65
 exact klf _ _ (fun _ _ _ _=>rfl) l [] KK k _ h (by rw [kl];omega) (by simpa using hl) h0 hk
theorem ksf (n9:Int) (q1:Int→Int→Bool→Bool→Rs) (q2:Int→Int→Bool→SV→Rs) (hq:∀x0 x1 x2 x3,q2 x0 x1 x2 x3=some ([.one (.i .i64 x0)],[])):∀(b a:Rw) (m:Nat) (k:Int) (v0 v1:SV) (L:Rw) (i:Int),L=a++kv k b→i=(a.length:Int)→b.length < m→a.length+b.length≤4000000→0≤k→k+1 * (b.length:Int)≤4000000000000000000 →
  l72o0 L n9 q1 q2 m k i v0 v1=some ([.one (.i .i64 (k+1 * (b.length:Int)))],[]):=by
 intro b
 induction b with
 | nil =>
  intro a m k v0 v1 L i hL hi hm hl h0 hk
  subst hL hi
  obtain ⟨m,rfl⟩:∃m',m=m' + 1:=⟨m - 1,by omega⟩
  have e:decide ((a.length:Int) < ((a++([]:Rw)).length:Int))=false:=by simp
  have e2:k+1 * ((([]:Rw).length:Nat):Int)=k:=by simp
  rw [show kv k []=[] from rfl]
  simp only [l72o0,e,bft,if_false,hq,e2]
 | cons r b ih =>
  intro a m k v0 v1 L i hL hi hm hl h0 hk
  subst hL hi
  obtain ⟨m,rfl⟩:∃m',m=m' + 1:=⟨m - 1,by omega⟩
  simp only [List.length_cons] at hm hl hk
  have e1:∀(r:List D) (b:Rw),decide ((a.length:Int) < ((a++r :: b).length:Int))=true:=fun r b=>decide_eq_true (by simp;omega)
  have e0:decide (0≤(a.length:Int))=true:=decide_eq_true (by omega)
  have eg:∀(r:List D) (b:Rw),(a++r :: b).getD a.length []=r:=fun r b=>kmb a b r _ rfl
  have u1:w64 (k+1)=k+1:=kb _ (by omega)
  have hw:=kg a.length (by omega)
  have this:=fun (z0:SV) (z1:SV)=>ih (a++[kkc k]) m (k+1) z0 z1 _ _ rfl rfl (by omega) (by simp;omega) (by omega) (by omega)
  have e3:(a++[kkc k]).length=a.length+1:=by simp
  simp only [e3,List.append_assoc] at this
  have e4:k+1 * (((r :: b).length:Nat):Int)=k+1+1 * (b.length:Int):=by simp only [List.length_cons];omega
  have e5:a++kv k (r :: b)=a++kkc k :: kv (k+1) b:=rfl
  rw [e5]
  have ez:isRow z3 (kkc k)=true:=rfl
  have d0:asI (nthD (kkc k) 0)=k:=rfl
  simp only [l72o0,e1,e0,if_true,itn,eg,ez,d0,u1,bne_self_eq_false,beq_self_eq_true,bnt,bft,if_false,bat,ka,hw]
  rw [e4]
  exact this _ _
theorem kid (l:Rw) (hl:l.length≤4000000) (k:Int) (h0:0≤k) (hk:k+1 * (l.length:Int)≤4000000000000000000):t72 (kv k l) k=some ([.one (.i .i64 (k+1 * (l.length:Int)))],[]):=by
 unfold t72
 exact ksf _ _ _ (fun _ _ _ _=>rfl) l [] KK k _ _ _ _ rfl rfl (by rw [kl];omega) (by simpa using hl) h0 hk
noncomputable def kpb (k:Int):List D:=[.s (mkT (k)),.i .i64 (k+1)]
noncomputable def ks:Int→Rw→Rw
 | _,[]=>[]
 | k,_ :: b=>kpb k :: ks (k+1+1) b
theorem kbe (n8:Int) (q:Int→Int→Bool→Rw→Rs) (hq:∀a b c d,q a b c d=some ([.one (.i .i64 a)],[[.l d]])):∀(b a:Rw) (m:Nat) (k:Int) (v0:SV),(∀r∈b,r.length=2)→b.length < m→a.length+b.length≤4000000→0≤k→k+2 * (b.length:Int)≤4000000000000000000 →
  la106o0 t71 n8 q m k (a.length:Int) v0 (a++b)=some ([.one (.i .i64 (k+2 * (b.length:Int)))],[[.l (a++ks k b)]]):=by
 intro b
 induction b with
 | nil =>
  intro a m k v0 h hm hl h0 hk
  obtain ⟨m,rfl⟩:∃m',m=m' + 1:=⟨m - 1,by omega⟩
  have e:decide ((a.length:Int) < ((a++([]:Rw)).length:Int))=false:=by simp
  have e2:k+2 * ((([]:Rw).length:Nat):Int)=k:=by simp
  simp only [la106o0,e,bft,if_false,hq,e2,ks]
 | cons r b ih =>
  intro a m k v0 h hm hl h0 hk
  obtain ⟨m,rfl⟩:∃m',m=m' + 1:=⟨m - 1,by omega⟩
  simp only [List.length_cons] at hm hl hk
  obtain ⟨c1,c2,rfl⟩:=len2 (h r (List.mem_cons_self ..))
  have hb:∀r∈b,r.length=2:=fun r hr=>h r (List.mem_cons_of_mem _ hr)
  have e1:∀r:List D,decide ((a.length:Int) < ((a++r :: b).length:Int))=true:=fun r=>decide_eq_true (by simp;omega)
  have e0:decide (0≤(a.length:Int))=true:=decide_eq_true (by omega)
  have p1:∀r:List D,decide (1≤2∧a.length < (a++r :: b).length)=true:=fun r=>decide_eq_true (by simp)
  have p2:∀r:List D,decide (2≤2∧a.length < (a++r :: b).length)=true:=fun r=>decide_eq_true (by simp)
  have u1:w64 (k+1)=k+1:=kb _ (by omega)
  have u2:w64 (k+1+1)=k+1+1:=kb _ (by omega)
  have t0:=kk (k) (by omega)
  have hw:=kg a.length (by omega)
  simp only [la106o0,e1,e0,if_true,itn,p1,p2,u1,u2,t0,kx,kw,kak a b _ rfl,kyj a b _ rfl,bat,ka,hw]
  have:=fun (z0:SV)=>ih (a++[kpb k]) m (k+1+1) z0 hb (by omega) (by simp;omega) (by omega) (by omega)
  have e3:(a++[kpb k]).length=a.length+1:=by simp
  simp only [e3,List.append_assoc] at this
  have e4:k+2 * ((([c1,c2] :: b).length:Nat):Int)=k+1+1+2 * (b.length:Int):=by simp only [List.length_cons];omega
  have e5:a++ks k ([c1,c2] :: b)=(a++[kpb k])++ks (k+1+1) b:=by simp [ks]
  rw [e4,e5,List.append_assoc]
  exact this _
theorem kze (l:Rw) (h:∀r∈l,r.length=2) (hl:l.length≤4000000) (k:Int) (h0:0≤k) (hk:k+2 * (l.length:Int)≤4000000000000000000):t106 l k=some ([.one (.i .i64 (k+2 * (l.length:Int)))],[[.l (ks k l)]]):=by
 unfold t106 ta106
 exact kbe _ _ (fun _ _ _ _=>rfl) l [] KK k _ h (by rw [kl];omega) (by simpa using hl) h0 hk
theorem kae (n9:Int) (q1:Int→Int→Bool→Bool→SV→Rs) (q2:Int→Int→Bool→Bool→Bool→Rs) (q3:Int→Int→Bool→SV→SV→Rs) (hq:∀x0 x1 x2 x3 x4,q3 x0 x1 x2 x3 x4=some ([.one (.i .i64 x0)],[])):∀(b a:Rw) (m:Nat) (k:Int) (v0 v1 v2:SV) (L:Rw) (i:Int),L=a++ks k b→i=(a.length:Int)→b.length < m→a.length+b.length≤4000000→0≤k→k+2 * (b.length:Int)≤4000000000000000000 →
  la107o0 t71 L n9 q1 q2 q3 m k i v0 v1 v2=some ([.one (.i .i64 (k+2 * (b.length:Int)))],[]):=by
 intro b
 induction b with
 | nil =>
  intro a m k v0 v1 v2 L i hL hi hm hl h0 hk
  subst hL hi
  obtain ⟨m,rfl⟩:∃m',m=m' + 1:=⟨m - 1,by omega⟩
  have e:decide ((a.length:Int) < ((a++([]:Rw)).length:Int))=false:=by simp
  have e2:k+2 * ((([]:Rw).length:Nat):Int)=k:=by simp
  rw [show ks k []=[] from rfl]
  simp only [la107o0,e,bft,if_false,hq,e2]
 | cons r b ih =>
  intro a m k v0 v1 v2 L i hL hi hm hl h0 hk
  subst hL hi
  obtain ⟨m,rfl⟩:∃m',m=m' + 1:=⟨m - 1,by omega⟩
  simp only [List.length_cons] at hm hl hk
  have e1:∀(r:List D) (b:Rw),decide ((a.length:Int) < ((a++r :: b).length:Int))=true:=fun r b=>decide_eq_true (by simp;omega)
  have e0:decide (0≤(a.length:Int))=true:=decide_eq_true (by omega)
  have eg:∀(r:List D) (b:Rw),(a++r :: b).getD a.length []=r:=fun r b=>kmb a b r _ rfl
  have u1:w64 (k+1)=k+1:=kb _ (by omega)
  have u2:w64 (k+1+1)=k+1+1:=kb _ (by omega)
  have t0:=kk (k) (by omega)
  have hw:=kg a.length (by omega)
  have this:=fun (z0:SV) (z1:SV) (z2:SV)=>ih (a++[kpb k]) m (k+1+1) z0 z1 z2 _ _ rfl rfl (by omega) (by simp;omega) (by omega) (by omega)
  have e3:(a++[kpb k]).length=a.length+1:=by simp
  simp only [e3,List.append_assoc] at this
  have e4:k+2 * (((r :: b).length:Nat):Int)=k+1+1+2 * (b.length:Int):=by simp only [List.length_cons];omega
  have e5:a++ks k (r :: b)=a++kpb k :: ks (k+1+1) b:=rfl
  rw [e5]
  have ez:isRow z179 (kpb k)=true:=rfl
  have d0:asS (nthD (kpb k) 0)=mkT (k):=rfl
  have d1:asI (nthD (kpb k) 1)=k+1:=rfl
  simp only [la107o0,e1,e0,if_true,itn,eg,ez,d0,d1,u1,u2,t0,kx,kw,bne_self_eq_false,beq_self_eq_true,bnt,bft,if_false,bat,ka,hw]
  rw [e4]
  exact this _ _ _
theorem khf (l:Rw) (hl:l.length≤4000000) (k:Int) (h0:0≤k) (hk:k+2 * (l.length:Int)≤4000000000000000000):t107 (ks k l) k=some ([.one (.i .i64 (k+2 * (l.length:Int)))],[]):=by
 unfold t107 ta107
 exact kae _ _ _ _ (fun _ _ _ _ _=>rfl) l [] KK k _ _ _ _ _ rfl rfl (by rw [kl];omega) (by simpa using hl) h0 hk
noncomputable def kz (k:Int) (r:List D):List D:=[.i .i64 (k),.i .i64 (k+1),.i .i64 (k+1+1),.i .i64 (k+1+1+1),.i .i64 (k+1+1+1+1),.s (mkT (k+1+1+1+1+1)),.l (ks (k+1+1+1+1+1+1) (asL (nthD r 6))),.i .i64 (k+1+1+1+1+1+1+2 * (((asL (nthD r 6))).length:Int)),.i .i64 (k+1+1+1+1+1+1+2 * (((asL (nthD r 6))).length:Int)+1)]
def kjc (r:List D):Int:=8+2 * (((asL (nthD r 6))).length:Int)
noncomputable def ku:Int→Rw→Rw
 | _,[]=>[]
 | k,r :: b=>kz k r :: ku (k+kjc r) b
def ke:Rw→Int
 | []=>0
 | r :: b=>kjc r+ke b
theorem khc:∀(b:Rw),0≤ke b
 | []=>by simp [ke]
 | r :: b=>by
  have h:=khc b
  simp only [ke,kjc]
  omega
theorem kxj (a b:Rw) (i:Nat) (h:i=a.length) (c1 c2 c3 c4 c5 c6 c7 c8 c9 d:D):stR (a++[c1,c2,c3,c4,c5,c6,c7,c8,c9] :: b) i 0 [d]=a++[d,c2,c3,c4,c5,c6,c7,c8,c9] :: b:=kd a b _ _ i 0 h
theorem kdk (a b:Rw) (i:Nat) (h:i=a.length) (c1 c2 c3 c4 c5 c6 c7 c8 c9 d:D):stR (a++[c1,c2,c3,c4,c5,c6,c7,c8,c9] :: b) i 1 [d]=a++[c1,d,c3,c4,c5,c6,c7,c8,c9] :: b:=kd a b _ _ i 1 h
theorem kzj (a b:Rw) (i:Nat) (h:i=a.length) (c1 c2 c3 c4 c5 c6 c7 c8 c9 d:D):stR (a++[c1,c2,c3,c4,c5,c6,c7,c8,c9] :: b) i 2 [d]=a++[c1,c2,d,c4,c5,c6,c7,c8,c9] :: b:=kd a b _ _ i 2 h
theorem kck (a b:Rw) (i:Nat) (h:i=a.length) (c1 c2 c3 c4 c5 c6 c7 c8 c9 d:D):stR (a++[c1,c2,c3,c4,c5,c6,c7,c8,c9] :: b) i 3 [d]=a++[c1,c2,c3,d,c5,c6,c7,c8,c9] :: b:=kd a b _ _ i 3 h
theorem kek (a b:Rw) (i:Nat) (h:i=a.length) (c1 c2 c3 c4 c5 c6 c7 c8 c9 d:D):stR (a++[c1,c2,c3,c4,c5,c6,c7,c8,c9] :: b) i 4 [d]=a++[c1,c2,c3,c4,d,c6,c7,c8,c9] :: b:=kd a b _ _ i 4 h
theorem kbk (a b:Rw) (i:Nat) (h:i=a.length) (c1 c2 c3 c4 c5 c6 c7 c8 c9 d:D):stR (a++[c1,c2,c3,c4,c5,c6,c7,c8,c9] :: b) i 5 [d]=a++[c1,c2,c3,c4,c5,d,c7,c8,c9] :: b:=kd a b _ _ i 5 h
theorem kgk (a b:Rw) (i:Nat) (h:i=a.length) (c1 c2 c3 c4 c5 c6 c7 c8 c9 d:D):stR (a++[c1,c2,c3,c4,c5,c6,c7,c8,c9] :: b) i 6 [d]=a++[c1,c2,c3,c4,c5,c6,d,c8,c9] :: b:=kd a b _ _ i 6 h
theorem kfk (a b:Rw) (i:Nat) (h:i=a.length) (c1 c2 c3 c4 c5 c6 c7 c8 c9 d:D):stR (a++[c1,c2,c3,c4,c5,c6,c7,c8,c9] :: b) i 7 [d]=a++[c1,c2,c3,c4,c5,c6,c7,d,c9] :: b:=kd a b _ _ i 7 h
theorem kwj (a b:Rw) (i:Nat) (h:i=a.length) (c1 c2 c3 c4 c5 c6 c7 c8 c9 d:D):stR (a++[c1,c2,c3,c4,c5,c6,c7,c8,c9] :: b) i 8 [d]=a++[c1,c2,c3,c4,c5,c6,c7,c8,d] :: b:=kd a b _ _ i 8 h
theorem khe (n8:Int) (q:Int→Int→Bool→Rw→Rs) (hq:∀a b c d,q a b c d=some ([.one (.i .i64 a)],[[.l d]])):∀(b a:Rw) (m:Nat) (k:Int) (v0:SV),(∀r∈b,typL kbb r)→(∀r∈b,szdL kbb r)→b.length < m→a.length+b.length≤4000000→0≤k→k+ke b≤4000000000000000000 →
  la66o0 t71 t106 n8 q m k (a.length:Int) v0 (a++b)=some ([.one (.i .i64 (k+ke b))],[[.l (a++ku k b)]]):=by
 intro b
 induction b with
 | nil =>
  intro a m k v0 h hs hm hl h0 hk
  obtain ⟨m,rfl⟩:∃m',m=m' + 1:=⟨m - 1,by omega⟩
  have e:decide ((a.length:Int) < ((a++([]:Rw)).length:Int))=false:=by simp
  have e2:k+ke []=k:=by simp [ke]
  simp only [la66o0,e,bft,if_false,hq,e2,ku]
 | cons r b ih =>
  intro a m k v0 h hs hm hl h0 hk
  obtain ⟨m,rfl⟩:∃m',m=m' + 1:=⟨m - 1,by omega⟩
  simp only [List.length_cons] at hm hl
  have hz:=hs r (List.mem_cons_self ..)
  obtain ⟨x1,x2,x3,x4,x5,x6,x7,x8,x9,rfl,wx6,wx7,tx7⟩:=krd (h r (List.mem_cons_self ..))
  have hb:∀r∈b,typL kbb r:=fun r hr=>h r (List.mem_cons_of_mem _ hr)
  have hb2:∀r∈b,szdL kbb r:=fun r hr=>hs r (List.mem_cons_of_mem _ hr)
  have sx7:x7.length≤1048576∧∀r∈x7,szdL ktc r:=hz.2.2.2.2.2.2.1
  have lx7:=sx7.1
  have nb:=khc b
  have e6:k+kjc [.i .i64 x1,.i .i64 x2,.i .i64 x3,.i .i64 x4,.i .i64 x5,.s x6,.l x7,.i .i64 x8,.i .i64 x9]=k+1+1+1+1+1+1+2 * (x7.length:Int)+1+1:=by simp only [kjc,nthD,asL];omega
  have e7:k+ke ([.i .i64 x1,.i .i64 x2,.i .i64 x3,.i .i64 x4,.i .i64 x5,.s x6,.l x7,.i .i64 x8,.i .i64 x9] :: b)=k+1+1+1+1+1+1+2 * (x7.length:Int)+1+1+ke b:=by rw [ke,←Int.add_assoc,e6]
  rw [e7] at hk
  have e1:∀r:List D,decide ((a.length:Int) < ((a++r :: b).length:Int))=true:=fun r=>decide_eq_true (by simp;omega)
  have e0:decide (0≤(a.length:Int))=true:=decide_eq_true (by omega)
  have eg:∀(r:List D),(a++r :: b).getD a.length []=r:=fun r=>kmb a b r _ rfl
  have p0:∀r:List D,decide (1≤9∧a.length < (a++r :: b).length)=true:=fun r=>decide_eq_true (by simp)
  have p1:∀r:List D,decide (2≤9∧a.length < (a++r :: b).length)=true:=fun r=>decide_eq_true (by simp)
  have p2:∀r:List D,decide (3≤9∧a.length < (a++r :: b).length)=true:=fun r=>decide_eq_true (by simp)
  have p3:∀r:List D,decide (4≤9∧a.length < (a++r :: b).length)=true:=fun r=>decide_eq_true (by simp)
  have p4:∀r:List D,decide (5≤9∧a.length < (a++r :: b).length)=true:=fun r=>decide_eq_true (by simp)
  have p5:∀r:List D,decide (6≤9∧a.length < (a++r :: b).length)=true:=fun r=>decide_eq_true (by simp)
  have p7:∀r:List D,decide (8≤9∧a.length < (a++r :: b).length)=true:=fun r=>decide_eq_true (by simp)
  have p8:∀r:List D,decide (9≤9∧a.length < (a++r :: b).length)=true:=fun r=>decide_eq_true (by simp)
  have u0:w64 (k+1)=k+1:=kb _ (by omega)
  have u1:w64 (k+1+1)=k+1+1:=kb _ (by omega)
  have u2:w64 (k+1+1+1)=k+1+1+1:=kb _ (by omega)
  have u3:w64 (k+1+1+1+1)=k+1+1+1+1:=kb _ (by omega)
  have u4:w64 (k+1+1+1+1+1)=k+1+1+1+1+1:=kb _ (by omega)
  have u5:w64 (k+1+1+1+1+1+1)=k+1+1+1+1+1+1:=kb _ (by omega)
  have u7:w64 (k+1+1+1+1+1+1+2 * (x7.length:Int)+1)=k+1+1+1+1+1+1+2 * (x7.length:Int)+1:=kb _ (by omega)
  have u8:w64 (k+1+1+1+1+1+1+2 * (x7.length:Int)+1+1)=k+1+1+1+1+1+1+2 * (x7.length:Int)+1+1:=kb _ (by omega)
  have t5:=kk (k+1+1+1+1+1) (by omega)
  have m6:=kze x7 (fun r hr=>kn _ r (tx7 r hr)) (by omega) (k+1+1+1+1+1+1) (by omega) (by omega)
  have f6:fstSz 2 x7=true:=kic (fun r hr=>kn _ r (tx7 r hr))
  have o6:∀z (y:Rw),okR zr106 zo106 (some ([.one (.i .i64 z)],[[.l y]]))=true:=fun _ _=>rfl
  have v6:∀z (y:Rw),asL (outC (some ([.one (.i .i64 z)],[[.l y]])) 0 0)=y:=fun _ _=>rfl
  have i6:∀z (y:Rw),asI (resC (some ([.one (.i .i64 z)],[[.l y]])) 0 0)=z:=fun _ _=>rfl
  have d6:∀c1 c2 c3 c4 c5 c6 c8 c9:D,asL (nthD [c1,c2,c3,c4,c5,c6,.l x7,c8,c9] 6)=x7:=fun _ _ _ _ _ _ _ _=>rfl
  have h6:∀c1 c2 c3 c4 c5 c6 c8 c9:D,decide (7≤([c1,c2,c3,c4,c5,c6,.l x7,c8,c9]:List D).length)=true:=fun _ _ _ _ _ _ _ _=>rfl
  have k6:∀c1 c2 c3 c4 c5 c6 c8 c9:D,isF [.l []] 6 [c1,c2,c3,c4,c5,c6,.l x7,c8,c9]=true:=fun _ _ _ _ _ _ _ _=>rfl
  have hw:=kg a.length (by omega)
  have:=fun (z0:SV)=>ih (a++[kz k [.i .i64 x1,.i .i64 x2,.i .i64 x3,.i .i64 x4,.i .i64 x5,.s x6,.l x7,.i .i64 x8,.i .i64 x9]]) m (k+1+1+1+1+1+1+2 * (x7.length:Int)+1+1) z0 hb hb2 (by omega) (by simp;omega) (by omega) (by omega)
  simp only [la66o0,e1,e0,eg,if_true,itn,p0,p1,p2,p3,p4,p5,p7,p8,u0,u1,u2,u3,u4,u5,u7,u8,t5,ta5,kx,kw,kxj a b _ rfl,kdk a b _ rfl,kzj a b _ rfl,kck a b _ rfl,kek a b _ rfl,kbk a b _ rfl,kgk a b _ rfl,kfk a b _ rfl,kwj a b _ rfl,m6,f6,o6,v6,i6,d6,h6,k6,bat,ka,hw]
  have e3:(a++[kz k [.i .i64 x1,.i .i64 x2,.i .i64 x3,.i .i64 x4,.i .i64 x5,.s x6,.l x7,.i .i64 x8,.i .i64 x9]]).length=a.length+1:=by simp
  simp only [e3,List.append_assoc] at this
  have e5:a++ku k ([.i .i64 x1,.i .i64 x2,.i .i64 x3,.i .i64 x4,.i .i64 x5,.s x6,.l x7,.i .i64 x8,.i .i64 x9] :: b)=(a++[kz k [.i .i64 x1,.i .i64 x2,.i .i64 x3,.i .i64 x4,.i .i64 x5,.s x6,.l x7,.i .i64 x8,.i .i64 x9]])++ku (k+1+1+1+1+1+1+2 * (x7.length:Int)+1+1) b:=by rw [ku,e6,List.append_assoc];rfl
  rw [e7,e5,List.append_assoc]
  exact this _
theorem kvf (l:Rw) (h:∀r∈l,typL kbb r) (hs:∀r∈l,szdL kbb r) (hl:l.length≤4000000) (k:Int) (h0:0≤k) (hk:k+ke l≤4000000000000000000):t66 l k=some ([.one (.i .i64 (k+ke l))],[[.l (ku k l)]]):=by
 unfold t66 ta66
 exact khe _ _ (fun _ _ _ _=>rfl) l [] KK k _ h hs (by rw [kl];omega) (by simpa using hl) h0 hk
theorem gz0:∀z,okR zr107 zo107 (some ([.one (.i .i64 z)],[]))=true:=fun _=>id rfl
theorem gz1:∀z,asI (resC (some ([.one (.i .i64 z)],[])) 0 0)=z:=fun _=>id rfl
theorem kle (n9:Int) (q1:Int→Int→Bool→Bool→SV→SV→SV→SV→SV→SV→SV→SV→Rs) (q2:Int→Int→Bool→Bool→Bool→SV→SV→SV→SV→SV→SV→SV→Rs) (q3:Int→Int→Bool→Bool→Bool→Bool→SV→SV→SV→SV→SV→SV→Rs) (q4:Int→Int→Bool→Bool→Bool→Bool→Bool→SV→SV→SV→SV→SV→Rs) (q5:Int→Int→Bool→Bool→Bool→Bool→Bool→Bool→SV→SV→SV→SV→Rs) (q6:Int→Int→Bool→Bool→Bool→Bool→Bool→Bool→Bool→SV→SV→SV→Rs) (q7:Int→Int→Bool→Bool→Bool→Bool→Bool→Bool→Bool→Bool→SV→SV→Rs) (q8:Int→Int→Bool→Bool→Bool→Bool→Bool→Bool→Bool→Bool→Bool→SV→Rs) (q9:Int→Int→Bool→Bool→Bool→Bool→Bool→Bool→Bool→Bool→Bool→Bool→Rs) (q10:Int→Int→Bool→SV→SV→SV→SV→SV→SV→SV→SV→SV→Rs) (hq:∀z0 z1 z2 z3 z4 z5 z6 z7 z8 z9 z10 z11,q10 z0 z1 z2 z3 z4 z5 z6 z7 z8 z9 z10 z11=some ([.one (.i .i64 z0)],[])):∀(b a:Rw) (m:Nat) (k:Int) (v0 v1 v2 v3 v4 v5 v6 v7 v8 v9:SV) (L:Rw) (i:Int),(∀r∈b,typL kbb r)→(∀r∈b,szdL kbb r)→L=a++ku k b→i=(a.length:Int)→b.length < m→a.length+b.length≤4000000→0≤k→k+ke b≤4000000000000000000 →
  la73o0 t71 t107 L n9 q1 q2 q3 q4 q5 q6 q7 q8 q9 q10 m k i v0 v1 v2 v3 v4 v5 v6 v7 v8 v9=some ([.one (.i .i64 (k+ke b))],[]):=by
 intro b
 induction b with
 | nil =>
  intro a m k v0 v1 v2 v3 v4 v5 v6 v7 v8 v9 L i h hs hL hi hm hl h0 hk
  subst hL hi
  obtain ⟨m,rfl⟩:∃m',m=m' + 1:=⟨m - 1,by omega⟩
  have e:decide ((a.length:Int) < ((a++([]:Rw)).length:Int))=false:=by simp
  have e2:k+ke []=k:=by simp [ke]
  rw [show ku k []=[] from rfl]
  simp only [la73o0,e,bft,if_false,hq,e2]
 | cons r b ih =>
  intro a m k v0 v1 v2 v3 v4 v5 v6 v7 v8 v9 L i h hs hL hi hm hl h0 hk
  subst hL hi
  obtain ⟨m,rfl⟩:∃m',m=m' + 1:=⟨m - 1,by omega⟩
  simp only [List.length_cons] at hm hl
  have hz:=hs r (List.mem_cons_self ..)
  obtain ⟨x1,x2,x3,x4,x5,x6,x7,x8,x9,rfl,wx6,wx7,tx7⟩:=krd (h r (List.mem_cons_self ..))
  have hb:∀r∈b,typL kbb r:=fun r hr=>h r (List.mem_cons_of_mem _ hr)
  have hb2:∀r∈b,szdL kbb r:=fun r hr=>hs r (List.mem_cons_of_mem _ hr)
  have sx7:x7.length≤1048576∧∀r∈x7,szdL ktc r:=hz.2.2.2.2.2.2.1
  have lx7:=sx7.1
  have nb:=khc b
  have e6:k+kjc [.i .i64 x1,.i .i64 x2,.i .i64 x3,.i .i64 x4,.i .i64 x5,.s x6,.l x7,.i .i64 x8,.i .i64 x9]=k+1+1+1+1+1+1+2 * (x7.length:Int)+1+1:=by simp only [kjc,nthD,asL];omega
  have e7:k+ke ([.i .i64 x1,.i .i64 x2,.i .i64 x3,.i .i64 x4,.i .i64 x5,.s x6,.l x7,.i .i64 x8,.i .i64 x9] :: b)=k+1+1+1+1+1+1+2 * (x7.length:Int)+1+1+ke b:=by rw [ke,←Int.add_assoc,e6]
  rw [e7] at hk
  have e1:∀(r:List D) (b:Rw),decide ((a.length:Int) < ((a++r :: b).length:Int))=true:=fun r b=>decide_eq_true (by simp;omega)
  have e0:decide (0≤(a.length:Int))=true:=decide_eq_true (by omega)
  have eg:∀(r:List D) (b:Rw),(a++r :: b).getD a.length []=r:=fun r b=>kmb a b r _ rfl
  have u0:w64 (k+1)=k+1:=kb _ (by omega)
  have u1:w64 (k+1+1)=k+1+1:=kb _ (by omega)
  have u2:w64 (k+1+1+1)=k+1+1+1:=kb _ (by omega)
  have u3:w64 (k+1+1+1+1)=k+1+1+1+1:=kb _ (by omega)
  have u4:w64 (k+1+1+1+1+1)=k+1+1+1+1+1:=kb _ (by omega)
  have u5:w64 (k+1+1+1+1+1+1)=k+1+1+1+1+1+1:=kb _ (by omega)
  have u7:w64 (k+1+1+1+1+1+1+2 * (x7.length:Int)+1)=k+1+1+1+1+1+1+2 * (x7.length:Int)+1:=kb _ (by omega)
  have u8:w64 (k+1+1+1+1+1+1+2 * (x7.length:Int)+1+1)=k+1+1+1+1+1+1+2 * (x7.length:Int)+1+1:=kb _ (by omega)
  have t5:=kk (k+1+1+1+1+1) (by omega)
  have m6:=khf x7 (by omega) (k+1+1+1+1+1+1) (by omega) (by omega)
  have n6:decide (k+1+1+1+1+1+1+2 * (x7.length:Int) < 0)=false:=decide_eq_false (by omega)
  have hw:=kg a.length (by omega)
  have this:=fun (z0:SV) (z1:SV) (z2:SV) (z3:SV) (z4:SV) (z5:SV) (z6:SV) (z7:SV) (z8:SV) (z9:SV)=>ih (a++[kz k [.i .i64 x1,.i .i64 x2,.i .i64 x3,.i .i64 x4,.i .i64 x5,.s x6,.l x7,.i .i64 x8,.i .i64 x9]]) m (k+1+1+1+1+1+1+2 * (x7.length:Int)+1+1) z0 z1 z2 z3 z4 z5 z6 z7 z8 z9 _ _ hb hb2 rfl rfl (by omega) (by simp;omega) (by omega) (by omega)
  have e3:(a++[kz k [.i .i64 x1,.i .i64 x2,.i .i64 x3,.i .i64 x4,.i .i64 x5,.s x6,.l x7,.i .i64 x8,.i .i64 x9]]).length=a.length+1:=by simp
  simp only [e3,List.append_assoc] at this
  have e5:a++ku k ([.i .i64 x1,.i .i64 x2,.i .i64 x3,.i .i64 x4,.i .i64 x5,.s x6,.l x7,.i .i64 x8,.i .i64 x9] :: b)=a++kz k [.i .i64 x1,.i .i64 x2,.i .i64 x3,.i .i64 x4,.i .i64 x5,.s x6,.l x7,.i .i64 x8,.i .i64 x9] :: ku (k+1+1+1+1+1+1+2 * (x7.length:Int)+1+1) b:=by rw [ku,e6]
  rw [e5]
  have ez:isRow z143 (kz k [.i .i64 x1,.i .i64 x2,.i .i64 x3,.i .i64 x4,.i .i64 x5,.s x6,.l x7,.i .i64 x8,.i .i64 x9])=true:=rfl
  have d0:asI (nthD (kz k [.i .i64 x1,.i .i64 x2,.i .i64 x3,.i .i64 x4,.i .i64 x5,.s x6,.l x7,.i .i64 x8,.i .i64 x9]) 0)=(k):=rfl
  have d1:asI (nthD (kz k [.i .i64 x1,.i .i64 x2,.i .i64 x3,.i .i64 x4,.i .i64 x5,.s x6,.l x7,.i .i64 x8,.i .i64 x9]) 1)=(k+1):=rfl
  have d2:asI (nthD (kz k [.i .i64 x1,.i .i64 x2,.i .i64 x3,.i .i64 x4,.i .i64 x5,.s x6,.l x7,.i .i64 x8,.i .i64 x9]) 2)=(k+1+1):=rfl
  have d3:asI (nthD (kz k [.i .i64 x1,.i .i64 x2,.i .i64 x3,.i .i64 x4,.i .i64 x5,.s x6,.l x7,.i .i64 x8,.i .i64 x9]) 3)=(k+1+1+1):=rfl
  have d4:asI (nthD (kz k [.i .i64 x1,.i .i64 x2,.i .i64 x3,.i .i64 x4,.i .i64 x5,.s x6,.l x7,.i .i64 x8,.i .i64 x9]) 4)=(k+1+1+1+1):=rfl
  have d5:asS (nthD (kz k [.i .i64 x1,.i .i64 x2,.i .i64 x3,.i .i64 x4,.i .i64 x5,.s x6,.l x7,.i .i64 x8,.i .i64 x9]) 5)=(mkT (k+1+1+1+1+1)):=rfl
  have d6:asL (nthD (kz k [.i .i64 x1,.i .i64 x2,.i .i64 x3,.i .i64 x4,.i .i64 x5,.s x6,.l x7,.i .i64 x8,.i .i64 x9]) 6)=(ks (k+1+1+1+1+1+1) x7):=rfl
  have d7:asI (nthD (kz k [.i .i64 x1,.i .i64 x2,.i .i64 x3,.i .i64 x4,.i .i64 x5,.s x6,.l x7,.i .i64 x8,.i .i64 x9]) 7)=(k+1+1+1+1+1+1+2 * (x7.length:Int)):=rfl
  have d8:asI (nthD (kz k [.i .i64 x1,.i .i64 x2,.i .i64 x3,.i .i64 x4,.i .i64 x5,.s x6,.l x7,.i .i64 x8,.i .i64 x9]) 8)=(k+1+1+1+1+1+1+2 * (x7.length:Int)+1):=rfl
  simp only [la73o0,e1,e0,if_true,itn,eg,ez,d0,d1,d2,d3,d4,d5,d6,d7,d8,u0,u1,u2,u3,u4,u5,u7,u8,t5,ta5,kx,kw,m6,gz0,gz1,n6,bne_self_eq_false,beq_self_eq_true,bnt,bft,if_false,bat,ka,hw]
  rw [e7]
  exact this _ _ _ _ _ _ _ _ _ _
theorem kof (l:Rw) (h:∀r∈l,typL kbb r) (hs:∀r∈l,szdL kbb r) (hl:l.length≤4000000) (k:Int) (h0:0≤k) (hk:k+ke l≤4000000000000000000):t73 (ku k l) k=some ([.one (.i .i64 (k+ke l))],[]):=by
 unfold t73 ta73
 exact kle _ _ _ _ _ _ _ _ _ _ _ (fun _ _ _ _ _ _ _ _ _ _ _ _=>rfl) l [] KK k _ _ _ _ _ _ _ _ _ _ _ _ h hs rfl rfl (by rw [kl];omega) (by simpa using hl) h0 hk
theorem kfg (a b:Rw) (i:Nat) (h:i=a.length) (c1 c2 c3 c4 c5 d:D):stR (a++[c1,c2,c3,c4,c5] :: b) i 0 [d]=a++[d,c2,c3,c4,c5] :: b:=kd a b _ _ i 0 h
theorem keg (a b:Rw) (i:Nat) (h:i=a.length) (c1 c2 c3 c4 c5 d:D):stR (a++[c1,c2,c3,c4,c5] :: b) i 1 [d]=a++[c1,d,c3,c4,c5] :: b:=kd a b _ _ i 1 h
theorem kgg (a b:Rw) (i:Nat) (h:i=a.length) (c1 c2 c3 c4 c5 d:D):stR (a++[c1,c2,c3,c4,c5] :: b) i 2 [d]=a++[c1,c2,d,c4,c5] :: b:=kd a b _ _ i 2 h
theorem kdg (a b:Rw) (i:Nat) (h:i=a.length) (c1 c2 c3 c4 c5 d:D):stR (a++[c1,c2,c3,c4,c5] :: b) i 3 [d]=a++[c1,c2,c3,d,c5] :: b:=kd a b _ _ i 3 h
theorem khg (a b:Rw) (i:Nat) (h:i=a.length) (c1 c2 c3 c4 c5 d:D):stR (a++[c1,c2,c3,c4,c5] :: b) i 4 [d]=a++[c1,c2,c3,c4,d] :: b:=kd a b _ _ i 4 h
theorem len5 {r:List D} (h:r.length=5):∃c1 c2 c3 c4 c5,r=[c1,c2,c3,c4,c5]:=by
 match r,h with
 | [c1,c2,c3,c4,c5],_=>exact ⟨c1,c2,c3,c4,c5,rfl⟩
noncomputable def kob (k:Int):List D:=[.i .i64 (k),.i .i64 (k+1),.i .i64 (k+1+1),.i .i64 (k+1+1+1),.i .i64 (k+1+1+1+1)]
noncomputable def kdb:Int→Rw→Rw
 | _,[]=>[]
 | k,_ :: b=>kob k :: kdb (k+1+1+1+1+1) b
theorem kxe (n8:Int) (q:Int→Int→Bool→Rw→Rs) (hq:∀a b c d,q a b c d=some ([.one (.i .i64 a)],[[.l d]])):∀(b a:Rw) (m:Nat) (k:Int) (v0:SV),(∀r∈b,r.length=5)→b.length < m→a.length+b.length≤4000000→0≤k→k+5 * (b.length:Int)≤4000000000000000000 →
  l67o0 n8 q m k (a.length:Int) v0 (a++b)=some ([.one (.i .i64 (k+5 * (b.length:Int)))],[[.l (a++kdb k b)]]):=by
 intro b
 induction b with
 | nil =>
  intro a m k v0 h hm hl h0 hk
  obtain ⟨m,rfl⟩:∃m',m=m' + 1:=⟨m - 1,by omega⟩
  have e:decide ((a.length:Int) < ((a++([]:Rw)).length:Int))=false:=by simp
  have e2:k+5 * ((([]:Rw).length:Nat):Int)=k:=by simp
  simp only [l67o0,e,bft,if_false,hq,e2,kdb]
 | cons r b ih =>
  intro a m k v0 h hm hl h0 hk
  obtain ⟨m,rfl⟩:∃m',m=m' + 1:=⟨m - 1,by omega⟩
  simp only [List.length_cons] at hm hl hk
  obtain ⟨c1,c2,c3,c4,c5,rfl⟩:=len5 (h r (List.mem_cons_self ..))
  have hb:∀r∈b,r.length=5:=fun r hr=>h r (List.mem_cons_of_mem _ hr)
  have e1:∀r:List D,decide ((a.length:Int) < ((a++r :: b).length:Int))=true:=fun r=>decide_eq_true (by simp;omega)
  have e0:decide (0≤(a.length:Int))=true:=decide_eq_true (by omega)
  have p1:∀r:List D,decide (1≤5∧a.length < (a++r :: b).length)=true:=fun r=>decide_eq_true (by simp)
  have p2:∀r:List D,decide (2≤5∧a.length < (a++r :: b).length)=true:=fun r=>decide_eq_true (by simp)
  have p3:∀r:List D,decide (3≤5∧a.length < (a++r :: b).length)=true:=fun r=>decide_eq_true (by simp)
  have p4:∀r:List D,decide (4≤5∧a.length < (a++r :: b).length)=true:=fun r=>decide_eq_true (by simp)
  have p5:∀r:List D,decide (5≤5∧a.length < (a++r :: b).length)=true:=fun r=>decide_eq_true (by simp)
  have u1:w64 (k+1)=k+1:=kb _ (by omega)
  have u2:w64 (k+1+1)=k+1+1:=kb _ (by omega)
  have u3:w64 (k+1+1+1)=k+1+1+1:=kb _ (by omega)
  have u4:w64 (k+1+1+1+1)=k+1+1+1+1:=kb _ (by omega)
  have u5:w64 (k+1+1+1+1+1)=k+1+1+1+1+1:=kb _ (by omega)
  have hw:=kg a.length (by omega)
  simp only [l67o0,e1,e0,if_true,itn,p1,p2,p3,p4,p5,u1,u2,u3,u4,u5,kfg a b _ rfl,keg a b _ rfl,kgg a b _ rfl,kdg a b _ rfl,khg a b _ rfl,bat,ka,hw]
  have:=fun (z0:SV)=>ih (a++[kob k]) m (k+1+1+1+1+1) z0 hb (by omega) (by simp;omega) (by omega) (by omega)
  have e3:(a++[kob k]).length=a.length+1:=by simp
  simp only [e3,List.append_assoc] at this
  have e4:k+5 * ((([c1,c2,c3,c4,c5] :: b).length:Nat):Int)=k+1+1+1+1+1+5 * (b.length:Int):=by simp only [List.length_cons];omega
  have e5:a++kdb k ([c1,c2,c3,c4,c5] :: b)=(a++[kob k])++kdb (k+1+1+1+1+1) b:=by simp [kdb]
  rw [e4,e5,List.append_assoc]
  exact this _
theorem kah (l:Rw) (h:∀r∈l,r.length=5) (hl:l.length≤4000000) (k:Int) (h0:0≤k) (hk:k+5 * (l.length:Int)≤4000000000000000000):t67 l k=some ([.one (.i .i64 (k+5 * (l.length:Int)))],[[.l (kdb k l)]]):=by
 unfold t67
 exact kxe _ _ (fun _ _ _ _=>rfl) l [] KK k _ h (by rw [kl];omega) (by simpa using hl) h0 hk
theorem kdf (n9:Int) (q1:Int→Int→Bool→Bool→SV→SV→SV→SV→Rs) (q2:Int→Int→Bool→Bool→Bool→SV→SV→SV→Rs) (q3:Int→Int→Bool→Bool→Bool→Bool→SV→SV→Rs) (q4:Int→Int→Bool→Bool→Bool→Bool→Bool→SV→Rs) (q5:Int→Int→Bool→Bool→Bool→Bool→Bool→Bool→Rs) (q6:Int→Int→Bool→SV→SV→SV→SV→SV→Rs) (hq:∀x0 x1 x2 x3 x4 x5 x6 x7,q6 x0 x1 x2 x3 x4 x5 x6 x7=some ([.one (.i .i64 x0)],[])):∀(b a:Rw) (m:Nat) (k:Int) (v0 v1 v2 v3 v4 v5:SV) (L:Rw) (i:Int),L=a++kdb k b→i=(a.length:Int)→b.length < m→a.length+b.length≤4000000→0≤k→k+5 * (b.length:Int)≤4000000000000000000 →
  l74o0 L n9 q1 q2 q3 q4 q5 q6 m k i v0 v1 v2 v3 v4 v5=some ([.one (.i .i64 (k+5 * (b.length:Int)))],[]):=by
 intro b
 induction b with
 | nil =>
  intro a m k v0 v1 v2 v3 v4 v5 L i hL hi hm hl h0 hk
  subst hL hi
  obtain ⟨m,rfl⟩:∃m',m=m' + 1:=⟨m - 1,by omega⟩
  have e:decide ((a.length:Int) < ((a++([]:Rw)).length:Int))=false:=by simp
  have e2:k+5 * ((([]:Rw).length:Nat):Int)=k:=by simp
  rw [show kdb k []=[] from rfl]
  simp only [l74o0,e,bft,if_false,hq,e2]
 | cons r b ih =>
  intro a m k v0 v1 v2 v3 v4 v5 L i hL hi hm hl h0 hk
  subst hL hi
  obtain ⟨m,rfl⟩:∃m',m=m' + 1:=⟨m - 1,by omega⟩
  simp only [List.length_cons] at hm hl hk
  have e1:∀(r:List D) (b:Rw),decide ((a.length:Int) < ((a++r :: b).length:Int))=true:=fun r b=>decide_eq_true (by simp;omega)
  have e0:decide (0≤(a.length:Int))=true:=decide_eq_true (by omega)
  have eg:∀(r:List D) (b:Rw),(a++r :: b).getD a.length []=r:=fun r b=>kmb a b r _ rfl
  have u1:w64 (k+1)=k+1:=kb _ (by omega)
  have u2:w64 (k+1+1)=k+1+1:=kb _ (by omega)
  have u3:w64 (k+1+1+1)=k+1+1+1:=kb _ (by omega)
  have u4:w64 (k+1+1+1+1)=k+1+1+1+1:=kb _ (by omega)
  have u5:w64 (k+1+1+1+1+1)=k+1+1+1+1+1:=kb _ (by omega)
  have hw:=kg a.length (by omega)
  have this:=fun (z0:SV) (z1:SV) (z2:SV) (z3:SV) (z4:SV) (z5:SV)=>ih (a++[kob k]) m (k+1+1+1+1+1) z0 z1 z2 z3 z4 z5 _ _ rfl rfl (by omega) (by simp;omega) (by omega) (by omega)
  have e3:(a++[kob k]).length=a.length+1:=by simp
  simp only [e3,List.append_assoc] at this
  have e4:k+5 * (((r :: b).length:Nat):Int)=k+1+1+1+1+1+5 * (b.length:Int):=by simp only [List.length_cons];omega
  have e5:a++kdb k (r :: b)=a++kob k :: kdb (k+1+1+1+1+1) b:=rfl
  rw [e5]
  have ez:isRow z146 (kob k)=true:=rfl
  have d0:asI (nthD (kob k) 0)=k:=rfl
  have d1:asI (nthD (kob k) 1)=k+1:=rfl
  have d2:asI (nthD (kob k) 2)=k+1+1:=rfl
  have d3:asI (nthD (kob k) 3)=k+1+1+1:=rfl
  have d4:asI (nthD (kob k) 4)=k+1+1+1+1:=rfl
  simp only [l74o0,e1,e0,if_true,itn,eg,ez,d0,d1,d2,d3,d4,u1,u2,u3,u4,u5,bne_self_eq_false,beq_self_eq_true,bnt,bft,if_false,bat,ka,hw]
  rw [e4]
  exact this _ _ _ _ _ _
theorem kfh (l:Rw) (hl:l.length≤4000000) (k:Int) (h0:0≤k) (hk:k+5 * (l.length:Int)≤4000000000000000000):t74 (kdb k l) k=some ([.one (.i .i64 (k+5 * (l.length:Int)))],[]):=by
 unfold t74
 exact kdf _ _ _ _ _ _ _ (fun _ _ _ _ _ _ _ _=>rfl) l [] KK k _ _ _ _ _ _ _ _ rfl rfl (by rw [kl];omega) (by simpa using hl) h0 hk
noncomputable def kcb (k:Int):List D:=[.i .i64 (k),.i .i64 (k+1),.i .i64 (k+1+1),.i .i64 (k+1+1+1),.s (mkT (k+1+1+1+1))]
noncomputable def kp:Int→Rw→Rw
 | _,[]=>[]
 | k,_ :: b=>kcb k :: kp (k+1+1+1+1+1) b
theorem kxd (n8:Int) (q:Int→Int→Bool→Rw→Rs) (hq:∀a b c d,q a b c d=some ([.one (.i .i64 a)],[[.l d]])):∀(b a:Rw) (m:Nat) (k:Int) (v0:SV),(∀r∈b,r.length=5)→b.length < m→a.length+b.length≤4000000→0≤k→k+5 * (b.length:Int)≤4000000000000000000 →
  la68o0 t71 n8 q m k (a.length:Int) v0 (a++b)=some ([.one (.i .i64 (k+5 * (b.length:Int)))],[[.l (a++kp k b)]]):=by
 intro b
 induction b with
 | nil =>
  intro a m k v0 h hm hl h0 hk
  obtain ⟨m,rfl⟩:∃m',m=m' + 1:=⟨m - 1,by omega⟩
  have e:decide ((a.length:Int) < ((a++([]:Rw)).length:Int))=false:=by simp
  have e2:k+5 * ((([]:Rw).length:Nat):Int)=k:=by simp
  simp only [la68o0,e,bft,if_false,hq,e2,kp]
 | cons r b ih =>
  intro a m k v0 h hm hl h0 hk
  obtain ⟨m,rfl⟩:∃m',m=m' + 1:=⟨m - 1,by omega⟩
  simp only [List.length_cons] at hm hl hk
  obtain ⟨c1,c2,c3,c4,c5,rfl⟩:=len5 (h r (List.mem_cons_self ..))
  have hb:∀r∈b,r.length=5:=fun r hr=>h r (List.mem_cons_of_mem _ hr)
  have e1:∀r:List D,decide ((a.length:Int) < ((a++r :: b).length:Int))=true:=fun r=>decide_eq_true (by simp;omega)
  have e0:decide (0≤(a.length:Int))=true:=decide_eq_true (by omega)
  have p1:∀r:List D,decide (1≤5∧a.length < (a++r :: b).length)=true:=fun r=>decide_eq_true (by simp)
  have p2:∀r:List D,decide (2≤5∧a.length < (a++r :: b).length)=true:=fun r=>decide_eq_true (by simp)
  have p3:∀r:List D,decide (3≤5∧a.length < (a++r :: b).length)=true:=fun r=>decide_eq_true (by simp)
  have p4:∀r:List D,decide (4≤5∧a.length < (a++r :: b).length)=true:=fun r=>decide_eq_true (by simp)
  have p5:∀r:List D,decide (5≤5∧a.length < (a++r :: b).length)=true:=fun r=>decide_eq_true (by simp)
  have u1:w64 (k+1)=k+1:=kb _ (by omega)
  have u2:w64 (k+1+1)=k+1+1:=kb _ (by omega)
  have u3:w64 (k+1+1+1)=k+1+1+1:=kb _ (by omega)
  have u4:w64 (k+1+1+1+1)=k+1+1+1+1:=kb _ (by omega)
  have u5:w64 (k+1+1+1+1+1)=k+1+1+1+1+1:=kb _ (by omega)
  have t4:=kk (k+1+1+1+1) (by omega)
  have hw:=kg a.length (by omega)
  simp only [la68o0,e1,e0,if_true,itn,p1,p2,p3,p4,p5,u1,u2,u3,u4,u5,t4,ta4,kx,kw,kfg a b _ rfl,keg a b _ rfl,kgg a b _ rfl,kdg a b _ rfl,khg a b _ rfl,bat,ka,hw]
  have:=fun (z0:SV)=>ih (a++[kcb k]) m (k+1+1+1+1+1) z0 hb (by omega) (by simp;omega) (by omega) (by omega)
  have e3:(a++[kcb k]).length=a.length+1:=by simp
  simp only [e3,List.append_assoc] at this
  have e4:k+5 * ((([c1,c2,c3,c4,c5] :: b).length:Nat):Int)=k+1+1+1+1+1+5 * (b.length:Int):=by simp only [List.length_cons];omega
  have e5:a++kp k ([c1,c2,c3,c4,c5] :: b)=(a++[kcb k])++kp (k+1+1+1+1+1) b:=by simp [kp]
  rw [e4,e5,List.append_assoc]
  exact this _
theorem kre (l:Rw) (h:∀r∈l,r.length=5) (hl:l.length≤4000000) (k:Int) (h0:0≤k) (hk:k+5 * (l.length:Int)≤4000000000000000000):t68 l k=some ([.one (.i .i64 (k+5 * (l.length:Int)))],[[.l (kp k l)]]):=by
 unfold t68 ta68
 exact kxd _ _ (fun _ _ _ _=>rfl) l [] KK k _ h (by rw [kl];omega) (by simpa using hl) h0 hk
theorem kwd (n9:Int) (q1:Int→Int→Bool→Bool→SV→SV→SV→SV→Rs) (q2:Int→Int→Bool→Bool→Bool→SV→SV→SV→Rs) (q3:Int→Int→Bool→Bool→Bool→Bool→SV→SV→Rs) (q4:Int→Int→Bool→Bool→Bool→Bool→Bool→SV→Rs) (q5:Int→Int→Bool→Bool→Bool→Bool→Bool→Bool→Rs) (q6:Int→Int→Bool→SV→SV→SV→SV→SV→Rs) (hq:∀x0 x1 x2 x3 x4 x5 x6 x7,q6 x0 x1 x2 x3 x4 x5 x6 x7=some ([.one (.i .i64 x0)],[])):∀(b a:Rw) (m:Nat) (k:Int) (v0 v1 v2 v3 v4 v5:SV) (L:Rw) (i:Int),L=a++kp k b→i=(a.length:Int)→b.length < m→a.length+b.length≤4000000→0≤k→k+5 * (b.length:Int)≤4000000000000000000 →
  la75o0 t71 L n9 q1 q2 q3 q4 q5 q6 m k i v0 v1 v2 v3 v4 v5=some ([.one (.i .i64 (k+5 * (b.length:Int)))],[]):=by
 intro b
 induction b with
 | nil =>
  intro a m k v0 v1 v2 v3 v4 v5 L i hL hi hm hl h0 hk
  subst hL hi
  obtain ⟨m,rfl⟩:∃m',m=m' + 1:=⟨m - 1,by omega⟩
  have e:decide ((a.length:Int) < ((a++([]:Rw)).length:Int))=false:=by simp
  have e2:k+5 * ((([]:Rw).length:Nat):Int)=k:=by simp
  rw [show kp k []=[] from rfl]
  simp only [la75o0,e,bft,if_false,hq,e2]
 | cons r b ih =>
  intro a m k v0 v1 v2 v3 v4 v5 L i hL hi hm hl h0 hk
  subst hL hi
  obtain ⟨m,rfl⟩:∃m',m=m' + 1:=⟨m - 1,by omega⟩
  simp only [List.length_cons] at hm hl hk
  have e1:∀(r:List D) (b:Rw),decide ((a.length:Int) < ((a++r :: b).length:Int))=true:=fun r b=>decide_eq_true (by simp;omega)
  have e0:decide (0≤(a.length:Int))=true:=decide_eq_true (by omega)
  have eg:∀(r:List D) (b:Rw),(a++r :: b).getD a.length []=r:=fun r b=>kmb a b r _ rfl
  have u1:w64 (k+1)=k+1:=kb _ (by omega)
  have u2:w64 (k+1+1)=k+1+1:=kb _ (by omega)
  have u3:w64 (k+1+1+1)=k+1+1+1:=kb _ (by omega)
  have u4:w64 (k+1+1+1+1)=k+1+1+1+1:=kb _ (by omega)
  have u5:w64 (k+1+1+1+1+1)=k+1+1+1+1+1:=kb _ (by omega)
  have t4:=kk (k+1+1+1+1) (by omega)
  have hw:=kg a.length (by omega)
  have this:=fun (z0:SV) (z1:SV) (z2:SV) (z3:SV) (z4:SV) (z5:SV)=>ih (a++[kcb k]) m (k+1+1+1+1+1) z0 z1 z2 z3 z4 z5 _ _ rfl rfl (by omega) (by simp;omega) (by omega) (by omega)
  have e3:(a++[kcb k]).length=a.length+1:=by simp
  simp only [e3,List.append_assoc] at this
  have e4:k+5 * (((r :: b).length:Nat):Int)=k+1+1+1+1+1+5 * (b.length:Int):=by simp only [List.length_cons];omega
  have e5:a++kp k (r :: b)=a++kcb k :: kp (k+1+1+1+1+1) b:=rfl
  rw [e5]
  have ez:isRow z150 (kcb k)=true:=rfl
  have d0:asI (nthD (kcb k) 0)=k:=rfl
  have d1:asI (nthD (kcb k) 1)=k+1:=rfl
  have d2:asI (nthD (kcb k) 2)=k+1+1:=rfl
  have d3:asI (nthD (kcb k) 3)=k+1+1+1:=rfl
  have d4:asS (nthD (kcb k) 4)=mkT (k+1+1+1+1):=rfl
  simp only [la75o0,e1,e0,if_true,itn,eg,ez,d0,d1,d2,d3,d4,u1,u2,u3,u4,u5,t4,ta4,kx,kw,bne_self_eq_false,beq_self_eq_true,bnt,bft,if_false,bat,ka,hw]
  rw [e4]
  exact this _ _ _ _ _ _
theorem kge (l:Rw) (hl:l.length≤4000000) (k:Int) (h0:0≤k) (hk:k+5 * (l.length:Int)≤4000000000000000000):t75 (kp k l) k=some ([.one (.i .i64 (k+5 * (l.length:Int)))],[]):=by
 unfold t75 ta75
 exact kwd _ _ _ _ _ _ _ (fun _ _ _ _ _ _ _ _=>rfl) l [] KK k _ _ _ _ _ _ _ _ rfl rfl (by rw [kl];omega) (by simpa using hl) h0 hk
noncomputable def kib (k:Int) (r:List D):List D:=[.i .i64 (k),.l (ku (k+1) (asL (nthD r 1))),.i .i64 (k+1+ke ((asL (nthD r 1)))),.l (kdb (k+1+ke ((asL (nthD r 1)))+1) (asL (nthD r 3))),.l (kp (k+1+ke ((asL (nthD r 1)))+1+5 * (((asL (nthD r 3))).length:Int)) (asL (nthD r 4)))]
def kgc (r:List D):Int:=2+ke ((asL (nthD r 1)))+5 * (((asL (nthD r 3))).length:Int)+5 * (((asL (nthD r 4))).length:Int)
noncomputable def kq:Int→Rw→Rw
 | _,[]=>[]
 | k,r :: b=>kib k r :: kq (k+kgc r) b
def kc:Rw→Int
 | []=>0
 | r :: b=>kgc r+kc b
theorem kzb:∀(b:Rw),0≤kc b
 | []=>by simp [kc]
 | r :: b=>by
  have h:=kzb b
  have q1:=khc (asL (nthD r 1))
  simp only [kc,kgc]
  omega
theorem kce (n8:Int) (q:Int→Int→Bool→Rw→Rs) (hq:∀a b c d,q a b c d=some ([.one (.i .i64 a)],[[.l d]])):∀(b a:Rw) (m:Nat) (k:Int) (v0:SV),(∀r∈b,typL ko r)→(∀r∈b,szdL ko r)→b.length < m→a.length+b.length≤4000000→0≤k→k+kc b≤4000000000000000000 →
  la27o0 t66 t67 t68 n8 q m k (a.length:Int) v0 (a++b)=some ([.one (.i .i64 (k+kc b))],[[.l (a++kq k b)]]):=by
 intro b
 induction b with
 | nil =>
  intro a m k v0 h hs hm hl h0 hk
  obtain ⟨m,rfl⟩:∃m',m=m' + 1:=⟨m - 1,by omega⟩
  have e:decide ((a.length:Int) < ((a++([]:Rw)).length:Int))=false:=by simp
  have e2:k+kc []=k:=by simp [kc]
  simp only [la27o0,e,bft,if_false,hq,e2,kq]
 | cons r b ih =>
  intro a m k v0 h hs hm hl h0 hk
  obtain ⟨m,rfl⟩:∃m',m=m' + 1:=⟨m - 1,by omega⟩
  simp only [List.length_cons] at hm hl
  have hz:=hs r (List.mem_cons_self ..)
  obtain ⟨x1,x2,x3,x4,x5,rfl,wx2,tx2,wx4,tx4,wx5,tx5⟩:=kod (h r (List.mem_cons_self ..))
  have hb:∀r∈b,typL ko r:=fun r hr=>h r (List.mem_cons_of_mem _ hr)
  have hb2:∀r∈b,szdL ko r:=fun r hr=>hs r (List.mem_cons_of_mem _ hr)
  have sx2:x2.length≤1048576∧∀r∈x2,szdL kbb r:=hz.2.1
  have sx4:x4.length≤1048576∧∀r∈x4,szdL ked r:=hz.2.2.2.1
  have sx5:x5.length≤1048576∧∀r∈x5,szdL kmc r:=hz.2.2.2.2.1
  have lx2:=sx2.1
  have lx4:=sx4.1
  have lx5:=sx5.1
  have qx2:=khc x2
  have nb:=kzb b
  have e6:k+kgc [.i .i64 x1,.l x2,.i .i64 x3,.l x4,.l x5]=k+1+ke x2+1+5 * (x4.length:Int)+5 * (x5.length:Int):=by simp only [kgc,nthD,asL];omega
  have e7:k+kc ([.i .i64 x1,.l x2,.i .i64 x3,.l x4,.l x5] :: b)=k+1+ke x2+1+5 * (x4.length:Int)+5 * (x5.length:Int)+kc b:=by rw [kc,←Int.add_assoc,e6]
  rw [e7] at hk
  have e1:∀r:List D,decide ((a.length:Int) < ((a++r :: b).length:Int))=true:=fun r=>decide_eq_true (by simp;omega)
  have e0:decide (0≤(a.length:Int))=true:=decide_eq_true (by omega)
  have eg:∀(r:List D),(a++r :: b).getD a.length []=r:=fun r=>kmb a b r _ rfl
  have p0:∀r:List D,decide (1≤5∧a.length < (a++r :: b).length)=true:=fun r=>decide_eq_true (by simp)
  have p2:∀r:List D,decide (3≤5∧a.length < (a++r :: b).length)=true:=fun r=>decide_eq_true (by simp)
  have u0:w64 (k+1)=k+1:=kb _ (by omega)
  have u2:w64 (k+1+ke x2+1)=k+1+ke x2+1:=kb _ (by omega)
  have m1:=kvf x2 tx2 sx2.2 (by omega) (k+1) (by omega) (by omega)
  have m3:=kah x4 (fun r hr=>kn _ r (tx4 r hr)) (by omega) (k+1+ke x2+1) (by omega) (by omega)
  have m4:=kre x5 (fun r hr=>kn _ r (tx5 r hr)) (by omega) (k+1+ke x2+1+5 * (x4.length:Int)) (by omega) (by omega)
  have f1:fstSz 9 x2=true:=kic (fun r hr=>kn _ r (tx2 r hr))
  have o1:∀z (y:Rw),okR zr66 zo66 (some ([.one (.i .i64 z)],[[.l y]]))=true:=fun _ _=>rfl
  have v1:∀z (y:Rw),asL (outC (some ([.one (.i .i64 z)],[[.l y]])) 0 0)=y:=fun _ _=>rfl
  have i1:∀z (y:Rw),asI (resC (some ([.one (.i .i64 z)],[[.l y]])) 0 0)=z:=fun _ _=>rfl
  have d1:∀c1 c3 c4 c5:D,asL (nthD [c1,.l x2,c3,c4,c5] 1)=x2:=fun _ _ _ _=>rfl
  have h1:∀c1 c3 c4 c5:D,decide (2≤([c1,.l x2,c3,c4,c5]:List D).length)=true:=fun _ _ _ _=>rfl
  have k1:∀c1 c3 c4 c5:D,isF [.l []] 1 [c1,.l x2,c3,c4,c5]=true:=fun _ _ _ _=>rfl
  have f3:fstSz 5 x4=true:=kic (fun r hr=>kn _ r (tx4 r hr))
  have o3:∀z (y:Rw),okR zr67 zo67 (some ([.one (.i .i64 z)],[[.l y]]))=true:=fun _ _=>rfl
  have v3:∀z (y:Rw),asL (outC (some ([.one (.i .i64 z)],[[.l y]])) 0 0)=y:=fun _ _=>rfl
  have i3:∀z (y:Rw),asI (resC (some ([.one (.i .i64 z)],[[.l y]])) 0 0)=z:=fun _ _=>rfl
  have d3:∀c1 c2 c3 c5:D,asL (nthD [c1,c2,c3,.l x4,c5] 3)=x4:=fun _ _ _ _=>rfl
  have h3:∀c1 c2 c3 c5:D,decide (4≤([c1,c2,c3,.l x4,c5]:List D).length)=true:=fun _ _ _ _=>rfl
  have k3:∀c1 c2 c3 c5:D,isF [.l []] 3 [c1,c2,c3,.l x4,c5]=true:=fun _ _ _ _=>rfl
  have f4:fstSz 5 x5=true:=kic (fun r hr=>kn _ r (tx5 r hr))
  have o4:∀z (y:Rw),okR zr68 zo68 (some ([.one (.i .i64 z)],[[.l y]]))=true:=fun _ _=>rfl
  have v4:∀z (y:Rw),asL (outC (some ([.one (.i .i64 z)],[[.l y]])) 0 0)=y:=fun _ _=>rfl
  have i4:∀z (y:Rw),asI (resC (some ([.one (.i .i64 z)],[[.l y]])) 0 0)=z:=fun _ _=>rfl
  have d4:∀c1 c2 c3 c4:D,asL (nthD [c1,c2,c3,c4,.l x5] 4)=x5:=fun _ _ _ _=>rfl
  have h4:∀c1 c2 c3 c4:D,decide (5≤([c1,c2,c3,c4,.l x5]:List D).length)=true:=fun _ _ _ _=>rfl
  have k4:∀c1 c2 c3 c4:D,isF [.l []] 4 [c1,c2,c3,c4,.l x5]=true:=fun _ _ _ _=>rfl
  have hw:=kg a.length (by omega)
  have:=fun (z0:SV)=>ih (a++[kib k [.i .i64 x1,.l x2,.i .i64 x3,.l x4,.l x5]]) m (k+1+ke x2+1+5 * (x4.length:Int)+5 * (x5.length:Int)) z0 hb hb2 (by omega) (by simp;omega) (by omega) (by omega)
  simp only [la27o0,e1,e0,eg,if_true,itn,p0,p2,u0,u2,kfg a b _ rfl,keg a b _ rfl,kgg a b _ rfl,kdg a b _ rfl,khg a b _ rfl,m1,f1,o1,v1,i1,d1,h1,k1,m3,f3,o3,v3,i3,d3,h3,k3,m4,f4,o4,v4,i4,d4,h4,k4,bat,ka,hw]
  have e3:(a++[kib k [.i .i64 x1,.l x2,.i .i64 x3,.l x4,.l x5]]).length=a.length+1:=by simp
  simp only [e3,List.append_assoc] at this
  have e5:a++kq k ([.i .i64 x1,.l x2,.i .i64 x3,.l x4,.l x5] :: b)=(a++[kib k [.i .i64 x1,.l x2,.i .i64 x3,.l x4,.l x5]])++kq (k+1+ke x2+1+5 * (x4.length:Int)+5 * (x5.length:Int)) b:=by rw [kq,e6,List.append_assoc];rfl
  rw [e7,e5,List.append_assoc]
  exact this _
theorem kue (l:Rw) (h:∀r∈l,typL ko r) (hs:∀r∈l,szdL ko r) (hl:l.length≤4000000) (k:Int) (h0:0≤k) (hk:k+kc l≤4000000000000000000):t27 l k=some ([.one (.i .i64 (k+kc l))],[[.l (kq k l)]]):=by
 unfold t27 ta27
 exact kce _ _ (fun _ _ _ _=>rfl) l [] KK k _ h hs (by rw [kl];omega) (by simpa using hl) h0 hk
theorem gz2:∀z,okR zr73 zo73 (some ([.one (.i .i64 z)],[]))=true:=fun _=>id rfl
theorem gz3:∀z,okR zr74 zo74 (some ([.one (.i .i64 z)],[]))=true:=fun _=>id rfl
theorem gz4:∀z,okR zr75 zo75 (some ([.one (.i .i64 z)],[]))=true:=fun _=>id rfl
theorem kde (n9:Int) (q1:Int→Int→Bool→Bool→SV→SV→SV→SV→Rs) (q2:Int→Int→Bool→Bool→Bool→SV→SV→SV→Rs) (q3:Int→Int→Bool→Bool→Bool→Bool→SV→SV→Rs) (q4:Int→Int→Bool→Bool→Bool→Bool→Bool→SV→Rs) (q5:Int→Int→Bool→Bool→Bool→Bool→Bool→Bool→Rs) (q6:Int→Int→Bool→SV→SV→SV→SV→SV→Rs) (hq:∀z0 z1 z2 z3 z4 z5 z6 z7,q6 z0 z1 z2 z3 z4 z5 z6 z7=some ([.one (.i .i64 z0)],[])):∀(b a:Rw) (m:Nat) (k:Int) (v0 v1 v2 v3 v4 v5:SV) (L:Rw) (i:Int),(∀r∈b,typL ko r)→(∀r∈b,szdL ko r)→L=a++kq k b→i=(a.length:Int)→b.length < m→a.length+b.length≤4000000→0≤k→k+kc b≤4000000000000000000 →
  la31o0 t73 t74 t75 L n9 q1 q2 q3 q4 q5 q6 m k i v0 v1 v2 v3 v4 v5=some ([.one (.i .i64 (k+kc b))],[]):=by
 intro b
 induction b with
 | nil =>
  intro a m k v0 v1 v2 v3 v4 v5 L i h hs hL hi hm hl h0 hk
  subst hL hi
  obtain ⟨m,rfl⟩:∃m',m=m' + 1:=⟨m - 1,by omega⟩
  have e:decide ((a.length:Int) < ((a++([]:Rw)).length:Int))=false:=by simp
  have e2:k+kc []=k:=by simp [kc]
  rw [show kq k []=[] from rfl]
  simp only [la31o0,e,bft,if_false,hq,e2]
 | cons r b ih =>
  intro a m k v0 v1 v2 v3 v4 v5 L i h hs hL hi hm hl h0 hk
  subst hL hi
  obtain ⟨m,rfl⟩:∃m',m=m' + 1:=⟨m - 1,by omega⟩
  simp only [List.length_cons] at hm hl
  have hz:=hs r (List.mem_cons_self ..)
  obtain ⟨x1,x2,x3,x4,x5,rfl,wx2,tx2,wx4,tx4,wx5,tx5⟩:=kod (h r (List.mem_cons_self ..))
  have hb:∀r∈b,typL ko r:=fun r hr=>h r (List.mem_cons_of_mem _ hr)
  have hb2:∀r∈b,szdL ko r:=fun r hr=>hs r (List.mem_cons_of_mem _ hr)
  have sx2:x2.length≤1048576∧∀r∈x2,szdL kbb r:=hz.2.1
  have sx4:x4.length≤1048576∧∀r∈x4,szdL ked r:=hz.2.2.2.1
  have sx5:x5.length≤1048576∧∀r∈x5,szdL kmc r:=hz.2.2.2.2.1
  have lx2:=sx2.1
  have lx4:=sx4.1
  have lx5:=sx5.1
  have qx2:=khc x2
  have nb:=kzb b
  have e6:k+kgc [.i .i64 x1,.l x2,.i .i64 x3,.l x4,.l x5]=k+1+ke x2+1+5 * (x4.length:Int)+5 * (x5.length:Int):=by simp only [kgc,nthD,asL];omega
  have e7:k+kc ([.i .i64 x1,.l x2,.i .i64 x3,.l x4,.l x5] :: b)=k+1+ke x2+1+5 * (x4.length:Int)+5 * (x5.length:Int)+kc b:=by rw [kc,←Int.add_assoc,e6]
  rw [e7] at hk
  have e1:∀(r:List D) (b:Rw),decide ((a.length:Int) < ((a++r :: b).length:Int))=true:=fun r b=>decide_eq_true (by simp;omega)
  have e0:decide (0≤(a.length:Int))=true:=decide_eq_true (by omega)
  have eg:∀(r:List D) (b:Rw),(a++r :: b).getD a.length []=r:=fun r b=>kmb a b r _ rfl
  have u0:w64 (k+1)=k+1:=kb _ (by omega)
  have u2:w64 (k+1+ke x2+1)=k+1+ke x2+1:=kb _ (by omega)
  have m1:=kof x2 tx2 sx2.2 (by omega) (k+1) (by omega) (by omega)
  have n1:decide (k+1+ke x2 < 0)=false:=decide_eq_false (by omega)
  have m3:=kfh x4 (by omega) (k+1+ke x2+1) (by omega) (by omega)
  have n3:decide (k+1+ke x2+1+5 * (x4.length:Int) < 0)=false:=decide_eq_false (by omega)
  have m4:=kge x5 (by omega) (k+1+ke x2+1+5 * (x4.length:Int)) (by omega) (by omega)
  have n4:decide (k+1+ke x2+1+5 * (x4.length:Int)+5 * (x5.length:Int) < 0)=false:=decide_eq_false (by omega)
  have hw:=kg a.length (by omega)
  have this:=fun (z0:SV) (z1:SV) (z2:SV) (z3:SV) (z4:SV) (z5:SV)=>ih (a++[kib k [.i .i64 x1,.l x2,.i .i64 x3,.l x4,.l x5]]) m (k+1+ke x2+1+5 * (x4.length:Int)+5 * (x5.length:Int)) z0 z1 z2 z3 z4 z5 _ _ hb hb2 rfl rfl (by omega) (by simp;omega) (by omega) (by omega)
  have e3:(a++[kib k [.i .i64 x1,.l x2,.i .i64 x3,.l x4,.l x5]]).length=a.length+1:=by simp
  simp only [e3,List.append_assoc] at this
  have e5:a++kq k ([.i .i64 x1,.l x2,.i .i64 x3,.l x4,.l x5] :: b)=a++kib k [.i .i64 x1,.l x2,.i .i64 x3,.l x4,.l x5] :: kq (k+1+ke x2+1+5 * (x4.length:Int)+5 * (x5.length:Int)) b:=by rw [kq,e6]
  rw [e5]
  have ez:isRow z94 (kib k [.i .i64 x1,.l x2,.i .i64 x3,.l x4,.l x5])=true:=rfl
  have d0:asI (nthD (kib k [.i .i64 x1,.l x2,.i .i64 x3,.l x4,.l x5]) 0)=(k):=rfl
  have d1:asL (nthD (kib k [.i .i64 x1,.l x2,.i .i64 x3,.l x4,.l x5]) 1)=(ku (k+1) x2):=rfl
  have d2:asI (nthD (kib k [.i .i64 x1,.l x2,.i .i64 x3,.l x4,.l x5]) 2)=(k+1+ke x2):=rfl
  have d3:asL (nthD (kib k [.i .i64 x1,.l x2,.i .i64 x3,.l x4,.l x5]) 3)=(kdb (k+1+ke x2+1) x4):=rfl
  have d4:asL (nthD (kib k [.i .i64 x1,.l x2,.i .i64 x3,.l x4,.l x5]) 4)=(kp (k+1+ke x2+1+5 * (x4.length:Int)) x5):=rfl
  simp only [la31o0,e1,e0,if_true,itn,eg,ez,d0,d1,d2,d3,d4,u0,u2,m1,gz2,gz1,n1,m3,gz3,gz1,n3,m4,gz4,gz1,n4,bne_self_eq_false,beq_self_eq_true,bnt,bft,if_false,bat,ka,hw]
  rw [e7]
  exact this _ _ _ _ _ _
theorem kcf (l:Rw) (h:∀r∈l,typL ko r) (hs:∀r∈l,szdL ko r) (hl:l.length≤4000000) (k:Int) (h0:0≤k) (hk:k+kc l≤4000000000000000000):t31 (kq k l) k=some ([.one (.i .i64 (k+kc l))],[]):=by
 unfold t31 ta31
 exact kde _ _ _ _ _ _ _ (fun _ _ _ _ _ _ _ _=>rfl) l [] KK k _ _ _ _ _ _ _ _ h hs rfl rfl (by rw [kl];omega) (by simpa using hl) h0 hk
noncomputable def ksb (k:Int):List D:=[.i .i64 (k),.i .i64 (k+1),.i .i64 (k+1+1),.i .i64 (k+1+1+1),.s (mkT (k+1+1+1+1))]
noncomputable def kkb:Int→Rw→Rw
 | _,[]=>[]
 | k,_ :: b=>ksb k :: kkb (k+1+1+1+1+1) b
theorem kcg (n8:Int) (q:Int→Int→Bool→Rw→Rs) (hq:∀a b c d,q a b c d=some ([.one (.i .i64 a)],[[.l d]])):∀(b a:Rw) (m:Nat) (k:Int) (v0:SV),(∀r∈b,r.length=5)→b.length < m→a.length+b.length≤4000000→0≤k→k+5 * (b.length:Int)≤4000000000000000000 →
  la70o0 t71 n8 q m k (a.length:Int) v0 (a++b)=some ([.one (.i .i64 (k+5 * (b.length:Int)))],[[.l (a++kkb k b)]]):=by
 intro b
 induction b with
 | nil =>
  intro a m k v0 h hm hl h0 hk
  obtain ⟨m,rfl⟩:∃m',m=m' + 1:=⟨m - 1,by omega⟩
  have e:decide ((a.length:Int) < ((a++([]:Rw)).length:Int))=false:=by simp
  have e2:k+5 * ((([]:Rw).length:Nat):Int)=k:=by simp
  simp only [la70o0,e,bft,if_false,hq,e2,kkb]
 | cons r b ih =>
  intro a m k v0 h hm hl h0 hk
  obtain ⟨m,rfl⟩:∃m',m=m' + 1:=⟨m - 1,by omega⟩
  simp only [List.length_cons] at hm hl hk
  obtain ⟨c1,c2,c3,c4,c5,rfl⟩:=len5 (h r (List.mem_cons_self ..))
  have hb:∀r∈b,r.length=5:=fun r hr=>h r (List.mem_cons_of_mem _ hr)
  have e1:∀r:List D,decide ((a.length:Int) < ((a++r :: b).length:Int))=true:=fun r=>decide_eq_true (by simp;omega)
  have e0:decide (0≤(a.length:Int))=true:=decide_eq_true (by omega)
  have p1:∀r:List D,decide (1≤5∧a.length < (a++r :: b).length)=true:=fun r=>decide_eq_true (by simp)
  have p2:∀r:List D,decide (2≤5∧a.length < (a++r :: b).length)=true:=fun r=>decide_eq_true (by simp)
  have p3:∀r:List D,decide (3≤5∧a.length < (a++r :: b).length)=true:=fun r=>decide_eq_true (by simp)
  have p4:∀r:List D,decide (4≤5∧a.length < (a++r :: b).length)=true:=fun r=>decide_eq_true (by simp)
  have p5:∀r:List D,decide (5≤5∧a.length < (a++r :: b).length)=true:=fun r=>decide_eq_true (by simp)
  have u1:w64 (k+1)=k+1:=kb _ (by omega)
  have u2:w64 (k+1+1)=k+1+1:=kb _ (by omega)
  have u3:w64 (k+1+1+1)=k+1+1+1:=kb _ (by omega)
  have u4:w64 (k+1+1+1+1)=k+1+1+1+1:=kb _ (by omega)
  have u5:w64 (k+1+1+1+1+1)=k+1+1+1+1+1:=kb _ (by omega)
  have t4:=kk (k+1+1+1+1) (by omega)
  have hw:=kg a.length (by omega)
  simp only [la70o0,e1,e0,if_true,itn,p1,p2,p3,p4,p5,u1,u2,u3,u4,u5,t4,ta4,kx,kw,kfg a b _ rfl,keg a b _ rfl,kgg a b _ rfl,kdg a b _ rfl,khg a b _ rfl,bat,ka,hw]
  have:=fun (z0:SV)=>ih (a++[ksb k]) m (k+1+1+1+1+1) z0 hb (by omega) (by simp;omega) (by omega) (by omega)
  have e3:(a++[ksb k]).length=a.length+1:=by simp
  simp only [e3,List.append_assoc] at this
  have e4:k+5 * ((([c1,c2,c3,c4,c5] :: b).length:Nat):Int)=k+1+1+1+1+1+5 * (b.length:Int):=by simp only [List.length_cons];omega
  have e5:a++kkb k ([c1,c2,c3,c4,c5] :: b)=(a++[ksb k])++kkb (k+1+1+1+1+1) b:=by simp [kkb]
  rw [e4,e5,List.append_assoc]
  exact this _
theorem kai (l:Rw) (h:∀r∈l,r.length=5) (hl:l.length≤4000000) (k:Int) (h0:0≤k) (hk:k+5 * (l.length:Int)≤4000000000000000000):t70 l k=some ([.one (.i .i64 (k+5 * (l.length:Int)))],[[.l (kkb k l)]]):=by
 unfold t70 ta70
 exact kcg _ _ (fun _ _ _ _=>rfl) l [] KK k _ h (by rw [kl];omega) (by simpa using hl) h0 hk
theorem kyf (n9:Int) (q1:Int→Int→Bool→Bool→SV→SV→SV→SV→Rs) (q2:Int→Int→Bool→Bool→Bool→SV→SV→SV→Rs) (q3:Int→Int→Bool→Bool→Bool→Bool→SV→SV→Rs) (q4:Int→Int→Bool→Bool→Bool→Bool→Bool→SV→Rs) (q5:Int→Int→Bool→Bool→Bool→Bool→Bool→Bool→Rs) (q6:Int→Int→Bool→SV→SV→SV→SV→SV→Rs) (hq:∀x0 x1 x2 x3 x4 x5 x6 x7,q6 x0 x1 x2 x3 x4 x5 x6 x7=some ([.one (.i .i64 x0)],[])):∀(b a:Rw) (m:Nat) (k:Int) (v0 v1 v2 v3 v4 v5:SV) (L:Rw) (i:Int),L=a++kkb k b→i=(a.length:Int)→b.length < m→a.length+b.length≤4000000→0≤k→k+5 * (b.length:Int)≤4000000000000000000 →
  la77o0 t71 L n9 q1 q2 q3 q4 q5 q6 m k i v0 v1 v2 v3 v4 v5=some ([.one (.i .i64 (k+5 * (b.length:Int)))],[]):=by
 intro b
 induction b with
 | nil =>
  intro a m k v0 v1 v2 v3 v4 v5 L i hL hi hm hl h0 hk
  subst hL hi
  obtain ⟨m,rfl⟩:∃m',m=m' + 1:=⟨m - 1,by omega⟩
  have e:decide ((a.length:Int) < ((a++([]:Rw)).length:Int))=false:=by simp
  have e2:k+5 * ((([]:Rw).length:Nat):Int)=k:=by simp
  rw [show kkb k []=[] from rfl]
  simp only [la77o0,e,bft,if_false,hq,e2]
 | cons r b ih =>
  intro a m k v0 v1 v2 v3 v4 v5 L i hL hi hm hl h0 hk
  subst hL hi
  obtain ⟨m,rfl⟩:∃m',m=m' + 1:=⟨m - 1,by omega⟩
  simp only [List.length_cons] at hm hl hk
  have e1:∀(r:List D) (b:Rw),decide ((a.length:Int) < ((a++r :: b).length:Int))=true:=fun r b=>decide_eq_true (by simp;omega)
  have e0:decide (0≤(a.length:Int))=true:=decide_eq_true (by omega)
  have eg:∀(r:List D) (b:Rw),(a++r :: b).getD a.length []=r:=fun r b=>kmb a b r _ rfl
  have u1:w64 (k+1)=k+1:=kb _ (by omega)
  have u2:w64 (k+1+1)=k+1+1:=kb _ (by omega)
  have u3:w64 (k+1+1+1)=k+1+1+1:=kb _ (by omega)
  have u4:w64 (k+1+1+1+1)=k+1+1+1+1:=kb _ (by omega)
  have u5:w64 (k+1+1+1+1+1)=k+1+1+1+1+1:=kb _ (by omega)
  have t4:=kk (k+1+1+1+1) (by omega)
  have hw:=kg a.length (by omega)
  have this:=fun (z0:SV) (z1:SV) (z2:SV) (z3:SV) (z4:SV) (z5:SV)=>ih (a++[ksb k]) m (k+1+1+1+1+1) z0 z1 z2 z3 z4 z5 _ _ rfl rfl (by omega) (by simp;omega) (by omega) (by omega)
  have e3:(a++[ksb k]).length=a.length+1:=by simp
  simp only [e3,List.append_assoc] at this
  have e4:k+5 * (((r :: b).length:Nat):Int)=k+1+1+1+1+1+5 * (b.length:Int):=by simp only [List.length_cons];omega
  have e5:a++kkb k (r :: b)=a++ksb k :: kkb (k+1+1+1+1+1) b:=rfl
  rw [e5]
  have ez:isRow z139 (ksb k)=true:=rfl
  have d0:asI (nthD (ksb k) 0)=k:=rfl
  have d1:asI (nthD (ksb k) 1)=k+1:=rfl
  have d2:asI (nthD (ksb k) 2)=k+1+1:=rfl
  have d3:asI (nthD (ksb k) 3)=k+1+1+1:=rfl
  have d4:asS (nthD (ksb k) 4)=mkT (k+1+1+1+1):=rfl
  simp only [la77o0,e1,e0,if_true,itn,eg,ez,d0,d1,d2,d3,d4,u1,u2,u3,u4,u5,t4,ta4,kx,kw,bne_self_eq_false,beq_self_eq_true,bnt,bft,if_false,bat,ka,hw]
  rw [e4]
  exact this _ _ _ _ _ _
theorem kth (l:Rw) (hl:l.length≤4000000) (k:Int) (h0:0≤k) (hk:k+5 * (l.length:Int)≤4000000000000000000):t77 (kkb k l) k=some ([.one (.i .i64 (k+5 * (l.length:Int)))],[]):=by
 unfold t77 ta77
 exact kyf _ _ _ _ _ _ _ (fun _ _ _ _ _ _ _ _=>rfl) l [] KK k _ _ _ _ _ _ _ _ rfl rfl (by rw [kl];omega) (by simpa using hl) h0 hk
theorem len9 {r:List D} (h:r.length=9):∃c1 c2 c3 c4 c5 c6 c7 c8 c9,r=[c1,c2,c3,c4,c5,c6,c7,c8,c9]:=by
 match r,h with
 | [c1,c2,c3,c4,c5,c6,c7,c8,c9],_=>exact ⟨c1,c2,c3,c4,c5,c6,c7,c8,c9,rfl⟩
noncomputable def kgb (k:Int):List D:=[.i .i64 (k),.i .i64 (k+1),.i .i64 (k+1+1),.i .i64 (k+1+1+1),.s (mkT (k+1+1+1+1)),.s (mkT (k+1+1+1+1+1)),.i .i64 (k+1+1+1+1+1+1),.i .i64 (k+1+1+1+1+1+1+1),.s (mkT (k+1+1+1+1+1+1+1+1))]
noncomputable def keb:Int→Rw→Rw
 | _,[]=>[]
 | k,_ :: b=>kgb k :: keb (k+1+1+1+1+1+1+1+1+1) b
theorem kwe (n8:Int) (q:Int→Int→Bool→Rw→Rs) (hq:∀a b c d,q a b c d=some ([.one (.i .i64 a)],[[.l d]])):∀(b a:Rw) (m:Nat) (k:Int) (v0:SV),(∀r∈b,r.length=9)→b.length < m→a.length+b.length≤4000000→0≤k→k+9 * (b.length:Int)≤4000000000000000000 →
  la29o0 t71 n8 q m k (a.length:Int) v0 (a++b)=some ([.one (.i .i64 (k+9 * (b.length:Int)))],[[.l (a++keb k b)]]):=by
 intro b
 induction b with
 | nil =>
  intro a m k v0 h hm hl h0 hk
  obtain ⟨m,rfl⟩:∃m',m=m' + 1:=⟨m - 1,by omega⟩
  have e:decide ((a.length:Int) < ((a++([]:Rw)).length:Int))=false:=by simp
  have e2:k+9 * ((([]:Rw).length:Nat):Int)=k:=by simp
  simp only [la29o0,e,bft,if_false,hq,e2,keb]
 | cons r b ih =>
  intro a m k v0 h hm hl h0 hk
  obtain ⟨m,rfl⟩:∃m',m=m' + 1:=⟨m - 1,by omega⟩
  simp only [List.length_cons] at hm hl hk
  obtain ⟨c1,c2,c3,c4,c5,c6,c7,c8,c9,rfl⟩:=len9 (h r (List.mem_cons_self ..))
  have hb:∀r∈b,r.length=9:=fun r hr=>h r (List.mem_cons_of_mem _ hr)
  have e1:∀r:List D,decide ((a.length:Int) < ((a++r :: b).length:Int))=true:=fun r=>decide_eq_true (by simp;omega)
  have e0:decide (0≤(a.length:Int))=true:=decide_eq_true (by omega)
  have p1:∀r:List D,decide (1≤9∧a.length < (a++r :: b).length)=true:=fun r=>decide_eq_true (by simp)
  have p2:∀r:List D,decide (2≤9∧a.length < (a++r :: b).length)=true:=fun r=>decide_eq_true (by simp)
  have p3:∀r:List D,decide (3≤9∧a.length < (a++r :: b).length)=true:=fun r=>decide_eq_true (by simp)
  have p4:∀r:List D,decide (4≤9∧a.length < (a++r :: b).length)=true:=fun r=>decide_eq_true (by simp)
  have p5:∀r:List D,decide (5≤9∧a.length < (a++r :: b).length)=true:=fun r=>decide_eq_true (by simp)
  have p6:∀r:List D,decide (6≤9∧a.length < (a++r :: b).length)=true:=fun r=>decide_eq_true (by simp)
  have p7:∀r:List D,decide (7≤9∧a.length < (a++r :: b).length)=true:=fun r=>decide_eq_true (by simp)
  have p8:∀r:List D,decide (8≤9∧a.length < (a++r :: b).length)=true:=fun r=>decide_eq_true (by simp)
  have p9:∀r:List D,decide (9≤9∧a.length < (a++r :: b).length)=true:=fun r=>decide_eq_true (by simp)
  have u1:w64 (k+1)=k+1:=kb _ (by omega)
  have u2:w64 (k+1+1)=k+1+1:=kb _ (by omega)
  have u3:w64 (k+1+1+1)=k+1+1+1:=kb _ (by omega)
  have u4:w64 (k+1+1+1+1)=k+1+1+1+1:=kb _ (by omega)
  have u5:w64 (k+1+1+1+1+1)=k+1+1+1+1+1:=kb _ (by omega)
  have u6:w64 (k+1+1+1+1+1+1)=k+1+1+1+1+1+1:=kb _ (by omega)
  have u7:w64 (k+1+1+1+1+1+1+1)=k+1+1+1+1+1+1+1:=kb _ (by omega)
  have u8:w64 (k+1+1+1+1+1+1+1+1)=k+1+1+1+1+1+1+1+1:=kb _ (by omega)
  have u9:w64 (k+1+1+1+1+1+1+1+1+1)=k+1+1+1+1+1+1+1+1+1:=kb _ (by omega)
  have t4:=kk (k+1+1+1+1) (by omega)
  have t5:=kk (k+1+1+1+1+1) (by omega)
  have t8:=kk (k+1+1+1+1+1+1+1+1) (by omega)
  have hw:=kg a.length (by omega)
  simp only [la29o0,e1,e0,if_true,itn,p1,p2,p3,p4,p5,p6,p7,p8,p9,u1,u2,u3,u4,u5,u6,u7,u8,u9,t4,ta4,t5,ta5,t8,kx,kw,kxj a b _ rfl,kdk a b _ rfl,kzj a b _ rfl,kck a b _ rfl,kek a b _ rfl,kbk a b _ rfl,kgk a b _ rfl,kfk a b _ rfl,kwj a b _ rfl,bat,ka,hw]
  have:=fun (z0:SV)=>ih (a++[kgb k]) m (k+1+1+1+1+1+1+1+1+1) z0 hb (by omega) (by simp;omega) (by omega) (by omega)
  have e3:(a++[kgb k]).length=a.length+1:=by simp
  simp only [e3,List.append_assoc] at this
  have e4:k+9 * ((([c1,c2,c3,c4,c5,c6,c7,c8,c9] :: b).length:Nat):Int)=k+1+1+1+1+1+1+1+1+1+9 * (b.length:Int):=by simp only [List.length_cons];omega
  have e5:a++keb k ([c1,c2,c3,c4,c5,c6,c7,c8,c9] :: b)=(a++[kgb k])++keb (k+1+1+1+1+1+1+1+1+1) b:=by simp [keb]
  rw [e4,e5,List.append_assoc]
  exact this _
theorem kug (l:Rw) (h:∀r∈l,r.length=9) (hl:l.length≤4000000) (k:Int) (h0:0≤k) (hk:k+9 * (l.length:Int)≤4000000000000000000):t29 l k=some ([.one (.i .i64 (k+9 * (l.length:Int)))],[[.l (keb k l)]]):=by
 unfold t29 ta29
 exact kwe _ _ (fun _ _ _ _=>rfl) l [] KK k _ h (by rw [kl];omega) (by simpa using hl) h0 hk
theorem kte (n9:Int) (q1:Int→Int→Bool→Bool→SV→SV→SV→SV→SV→SV→SV→SV→Rs) (q2:Int→Int→Bool→Bool→Bool→SV→SV→SV→SV→SV→SV→SV→Rs) (q3:Int→Int→Bool→Bool→Bool→Bool→SV→SV→SV→SV→SV→SV→Rs) (q4:Int→Int→Bool→Bool→Bool→Bool→Bool→SV→SV→SV→SV→SV→Rs) (q5:Int→Int→Bool→Bool→Bool→Bool→Bool→Bool→SV→SV→SV→SV→Rs) (q6:Int→Int→Bool→Bool→Bool→Bool→Bool→Bool→Bool→SV→SV→SV→Rs) (q7:Int→Int→Bool→Bool→Bool→Bool→Bool→Bool→Bool→Bool→SV→SV→Rs) (q8:Int→Int→Bool→Bool→Bool→Bool→Bool→Bool→Bool→Bool→Bool→SV→Rs) (q9:Int→Int→Bool→Bool→Bool→Bool→Bool→Bool→Bool→Bool→Bool→Bool→Rs) (q10:Int→Int→Bool→SV→SV→SV→SV→SV→SV→SV→SV→SV→Rs) (hq:∀x0 x1 x2 x3 x4 x5 x6 x7 x8 x9 x10 x11,q10 x0 x1 x2 x3 x4 x5 x6 x7 x8 x9 x10 x11=some ([.one (.i .i64 x0)],[])):∀(b a:Rw) (m:Nat) (k:Int) (v0 v1 v2 v3 v4 v5 v6 v7 v8 v9:SV) (L:Rw) (i:Int),L=a++keb k b→i=(a.length:Int)→b.length < m→a.length+b.length≤4000000→0≤k→k+9 * (b.length:Int)≤4000000000000000000 →
  la33o0 t71 L n9 q1 q2 q3 q4 q5 q6 q7 q8 q9 q10 m k i v0 v1 v2 v3 v4 v5 v6 v7 v8 v9=some ([.one (.i .i64 (k+9 * (b.length:Int)))],[]):=by
 intro b
 induction b with
 | nil =>
  intro a m k v0 v1 v2 v3 v4 v5 v6 v7 v8 v9 L i hL hi hm hl h0 hk
  subst hL hi
  obtain ⟨m,rfl⟩:∃m',m=m' + 1:=⟨m - 1,by omega⟩
  have e:decide ((a.length:Int) < ((a++([]:Rw)).length:Int))=false:=by simp
  have e2:k+9 * ((([]:Rw).length:Nat):Int)=k:=by simp
  rw [show keb k []=[] from rfl]
  simp only [la33o0,e,bft,if_false,hq,e2]
 | cons r b ih =>
  intro a m k v0 v1 v2 v3 v4 v5 v6 v7 v8 v9 L i hL hi hm hl h0 hk
  subst hL hi
  obtain ⟨m,rfl⟩:∃m',m=m' + 1:=⟨m - 1,by omega⟩
  simp only [List.length_cons] at hm hl hk
  have e1:∀(r:List D) (b:Rw),decide ((a.length:Int) < ((a++r :: b).length:Int))=true:=fun r b=>decide_eq_true (by simp;omega)
  have e0:decide (0≤(a.length:Int))=true:=decide_eq_true (by omega)
  have eg:∀(r:List D) (b:Rw),(a++r :: b).getD a.length []=r:=fun r b=>kmb a b r _ rfl
  have u1:w64 (k+1)=k+1:=kb _ (by omega)
  have u2:w64 (k+1+1)=k+1+1:=kb _ (by omega)
  have u3:w64 (k+1+1+1)=k+1+1+1:=kb _ (by omega)
  have u4:w64 (k+1+1+1+1)=k+1+1+1+1:=kb _ (by omega)
  have u5:w64 (k+1+1+1+1+1)=k+1+1+1+1+1:=kb _ (by omega)
  have u6:w64 (k+1+1+1+1+1+1)=k+1+1+1+1+1+1:=kb _ (by omega)
  have u7:w64 (k+1+1+1+1+1+1+1)=k+1+1+1+1+1+1+1:=kb _ (by omega)
  have u8:w64 (k+1+1+1+1+1+1+1+1)=k+1+1+1+1+1+1+1+1:=kb _ (by omega)
  have u9:w64 (k+1+1+1+1+1+1+1+1+1)=k+1+1+1+1+1+1+1+1+1:=kb _ (by omega)
  have t4:=kk (k+1+1+1+1) (by omega)
  have t5:=kk (k+1+1+1+1+1) (by omega)
  have t8:=kk (k+1+1+1+1+1+1+1+1) (by omega)
  have hw:=kg a.length (by omega)
  have this:=fun (z0:SV) (z1:SV) (z2:SV) (z3:SV) (z4:SV) (z5:SV) (z6:SV) (z7:SV) (z8:SV) (z9:SV)=>ih (a++[kgb k]) m (k+1+1+1+1+1+1+1+1+1) z0 z1 z2 z3 z4 z5 z6 z7 z8 z9 _ _ rfl rfl (by omega) (by simp;omega) (by omega) (by omega)
  have e3:(a++[kgb k]).length=a.length+1:=by simp
  simp only [e3,List.append_assoc] at this
  have e4:k+9 * (((r :: b).length:Nat):Int)=k+1+1+1+1+1+1+1+1+1+9 * (b.length:Int):=by simp only [List.length_cons];omega
  have e5:a++keb k (r :: b)=a++kgb k :: keb (k+1+1+1+1+1+1+1+1+1) b:=rfl
  rw [e5]
  have ez:isRow z100 (kgb k)=true:=rfl
  have d0:asI (nthD (kgb k) 0)=k:=rfl
  have d1:asI (nthD (kgb k) 1)=k+1:=rfl
  have d2:asI (nthD (kgb k) 2)=k+1+1:=rfl
  have d3:asI (nthD (kgb k) 3)=k+1+1+1:=rfl
  have d4:asS (nthD (kgb k) 4)=mkT (k+1+1+1+1):=rfl
  have d5:asS (nthD (kgb k) 5)=mkT (k+1+1+1+1+1):=rfl
  have d6:asI (nthD (kgb k) 6)=k+1+1+1+1+1+1:=rfl
  have d7:asI (nthD (kgb k) 7)=k+1+1+1+1+1+1+1:=rfl
  have d8:asS (nthD (kgb k) 8)=mkT (k+1+1+1+1+1+1+1+1):=rfl
  simp only [la33o0,e1,e0,if_true,itn,eg,ez,d0,d1,d2,d3,d4,d5,d6,d7,d8,u1,u2,u3,u4,u5,u6,u7,u8,u9,t4,ta4,t5,ta5,t8,kx,kw,bne_self_eq_false,beq_self_eq_true,bnt,bft,if_false,bat,ka,hw]
  rw [e4]
  exact this _ _ _ _ _ _ _ _ _ _
theorem kyg (l:Rw) (hl:l.length≤4000000) (k:Int) (h0:0≤k) (hk:k+9 * (l.length:Int)≤4000000000000000000):t33 (keb k l) k=some ([.one (.i .i64 (k+9 * (l.length:Int)))],[]):=by
 unfold t33 ta33
 exact kte _ _ _ _ _ _ _ _ _ _ _ (fun _ _ _ _ _ _ _ _ _ _ _ _=>rfl) l [] KK k _ _ _ _ _ _ _ _ _ _ _ _ rfl rfl (by rw [kl];omega) (by simpa using hl) h0 hk
noncomputable def kh (k:Int) (r:List D):List D:=[.i .i64 (k),.i .i64 (k+1),.b (((k+1+1).tmod (3:Int))==(0:Int)),.i .i64 (k+1+1+1),.i .i64 (k+1+1+1+1),.i .i64 (k+1+1+1+1+1),.i .i64 (k+1+1+1+1+1+1),.i .i64 (k+1+1+1+1+1+1+1),.i .i64 (k+1+1+1+1+1+1+1+1),.i .i64 (k+1+1+1+1+1+1+1+1+1),.i .i64 (k+1+1+1+1+1+1+1+1+1+1),.l (km (k+1+1+1+1+1+1+1+1+1+1+1) (asL (nthD r 11))),.i .i64 (k+1+1+1+1+1+1+1+1+1+1+1+2 * (((asL (nthD r 11))).length:Int)),.l (kv (k+1+1+1+1+1+1+1+1+1+1+1+2 * (((asL (nthD r 11))).length:Int)+1) (asL (nthD r 13))),.l (kv (k+1+1+1+1+1+1+1+1+1+1+1+2 * (((asL (nthD r 11))).length:Int)+1+1 * (((asL (nthD r 13))).length:Int)) (asL (nthD r 14))),.l (kv (k+1+1+1+1+1+1+1+1+1+1+1+2 * (((asL (nthD r 11))).length:Int)+1+1 * (((asL (nthD r 13))).length:Int)+1 * (((asL (nthD r 14))).length:Int)) (asL (nthD r 15))),.l (kq (k+1+1+1+1+1+1+1+1+1+1+1+2 * (((asL (nthD r 11))).length:Int)+1+1 * (((asL (nthD r 13))).length:Int)+1 * (((asL (nthD r 14))).length:Int)+1 * (((asL (nthD r 15))).length:Int)) (asL (nthD r 16))),.i .i64 (k+1+1+1+1+1+1+1+1+1+1+1+2 * (((asL (nthD r 11))).length:Int)+1+1 * (((asL (nthD r 13))).length:Int)+1 * (((asL (nthD r 14))).length:Int)+1 * (((asL (nthD r 15))).length:Int)+kc ((asL (nthD r 16)))),.i .i64 (k+1+1+1+1+1+1+1+1+1+1+1+2 * (((asL (nthD r 11))).length:Int)+1+1 * (((asL (nthD r 13))).length:Int)+1 * (((asL (nthD r 14))).length:Int)+1 * (((asL (nthD r 15))).length:Int)+kc ((asL (nthD r 16)))+1),.s (mkT (k+1+1+1+1+1+1+1+1+1+1+1+2 * (((asL (nthD r 11))).length:Int)+1+1 * (((asL (nthD r 13))).length:Int)+1 * (((asL (nthD r 14))).length:Int)+1 * (((asL (nthD r 15))).length:Int)+kc ((asL (nthD r 16)))+1+1)),.i .i64 (k+1+1+1+1+1+1+1+1+1+1+1+2 * (((asL (nthD r 11))).length:Int)+1+1 * (((asL (nthD r 13))).length:Int)+1 * (((asL (nthD r 14))).length:Int)+1 * (((asL (nthD r 15))).length:Int)+kc ((asL (nthD r 16)))+1+1+1),.i .i64 (k+1+1+1+1+1+1+1+1+1+1+1+2 * (((asL (nthD r 11))).length:Int)+1+1 * (((asL (nthD r 13))).length:Int)+1 * (((asL (nthD r 14))).length:Int)+1 * (((asL (nthD r 15))).length:Int)+kc ((asL (nthD r 16)))+1+1+1+1),.i .i64 (k+1+1+1+1+1+1+1+1+1+1+1+2 * (((asL (nthD r 11))).length:Int)+1+1 * (((asL (nthD r 13))).length:Int)+1 * (((asL (nthD r 14))).length:Int)+1 * (((asL (nthD r 15))).length:Int)+kc ((asL (nthD r 16)))+1+1+1+1+1),.i .i64 (k+1+1+1+1+1+1+1+1+1+1+1+2 * (((asL (nthD r 11))).length:Int)+1+1 * (((asL (nthD r 13))).length:Int)+1 * (((asL (nthD r 14))).length:Int)+1 * (((asL (nthD r 15))).length:Int)+kc ((asL (nthD r 16)))+1+1+1+1+1+1),.s (mkT (k+1+1+1+1+1+1+1+1+1+1+1+2 * (((asL (nthD r 11))).length:Int)+1+1 * (((asL (nthD r 13))).length:Int)+1 * (((asL (nthD r 14))).length:Int)+1 * (((asL (nthD r 15))).length:Int)+kc ((asL (nthD r 16)))+1+1+1+1+1+1+1)),.l (km (k+1+1+1+1+1+1+1+1+1+1+1+2 * (((asL (nthD r 11))).length:Int)+1+1 * (((asL (nthD r 13))).length:Int)+1 * (((asL (nthD r 14))).length:Int)+1 * (((asL (nthD r 15))).length:Int)+kc ((asL (nthD r 16)))+1+1+1+1+1+1+1+1) (asL (nthD r 25))),.l (kkb (k+1+1+1+1+1+1+1+1+1+1+1+2 * (((asL (nthD r 11))).length:Int)+1+1 * (((asL (nthD r 13))).length:Int)+1 * (((asL (nthD r 14))).length:Int)+1 * (((asL (nthD r 15))).length:Int)+kc ((asL (nthD r 16)))+1+1+1+1+1+1+1+1+2 * (((asL (nthD r 25))).length:Int)) (asL (nthD r 26))),.l (keb (k+1+1+1+1+1+1+1+1+1+1+1+2 * (((asL (nthD r 11))).length:Int)+1+1 * (((asL (nthD r 13))).length:Int)+1 * (((asL (nthD r 14))).length:Int)+1 * (((asL (nthD r 15))).length:Int)+kc ((asL (nthD r 16)))+1+1+1+1+1+1+1+1+2 * (((asL (nthD r 25))).length:Int)+5 * (((asL (nthD r 26))).length:Int)) (asL (nthD r 27))),.i .i64 (k+1+1+1+1+1+1+1+1+1+1+1+2 * (((asL (nthD r 11))).length:Int)+1+1 * (((asL (nthD r 13))).length:Int)+1 * (((asL (nthD r 14))).length:Int)+1 * (((asL (nthD r 15))).length:Int)+kc ((asL (nthD r 16)))+1+1+1+1+1+1+1+1+2 * (((asL (nthD r 25))).length:Int)+5 * (((asL (nthD r 26))).length:Int)+9 * (((asL (nthD r 27))).length:Int)),.i .i64 (k+1+1+1+1+1+1+1+1+1+1+1+2 * (((asL (nthD r 11))).length:Int)+1+1 * (((asL (nthD r 13))).length:Int)+1 * (((asL (nthD r 14))).length:Int)+1 * (((asL (nthD r 15))).length:Int)+kc ((asL (nthD r 16)))+1+1+1+1+1+1+1+1+2 * (((asL (nthD r 25))).length:Int)+5 * (((asL (nthD r 26))).length:Int)+9 * (((asL (nthD r 27))).length:Int)+1)]
def kec (r:List D):Int:=22+2 * (((asL (nthD r 11))).length:Int)+1 * (((asL (nthD r 13))).length:Int)+1 * (((asL (nthD r 14))).length:Int)+1 * (((asL (nthD r 15))).length:Int)+kc ((asL (nthD r 16)))+2 * (((asL (nthD r 25))).length:Int)+5 * (((asL (nthD r 26))).length:Int)+9 * (((asL (nthD r 27))).length:Int)
noncomputable def kab:Int→Rw→Rw
 | _,[]=>[]
 | k,r :: b=>kh k r :: kab (k+kec r) b
def kf:Rw→Int
 | []=>0
 | r :: b=>kec r+kf b
theorem klc:∀(b:Rw),0≤kf b
 | []=>by simp [kf]
 | r :: b=>by
  have h:=klc b
  have q16:=kzb (asL (nthD r 16))
  simp only [kf,kec]
  omega
theorem kil (a b:Rw) (i:Nat) (h:i=a.length) (c1 c2 c3 c4 c5 c6 c7 c8 c9 c10 c11 c12 c13 c14 c15 c16 c17 c18 c19 c20 c21 c22 c23 c24 c25 c26 c27 c28 c29 c30 d:D):stR (a++[c1,c2,c3,c4,c5,c6,c7,c8,c9,c10,c11,c12,c13,c14,c15,c16,c17,c18,c19,c20,c21,c22,c23,c24,c25,c26,c27,c28,c29,c30] :: b) i 0 [d]=a++[d,c2,c3,c4,c5,c6,c7,c8,c9,c10,c11,c12,c13,c14,c15,c16,c17,c18,c19,c20,c21,c22,c23,c24,c25,c26,c27,c28,c29,c30] :: b:=kd a b _ _ i 0 h
theorem kul (a b:Rw) (i:Nat) (h:i=a.length) (c1 c2 c3 c4 c5 c6 c7 c8 c9 c10 c11 c12 c13 c14 c15 c16 c17 c18 c19 c20 c21 c22 c23 c24 c25 c26 c27 c28 c29 c30 d:D):stR (a++[c1,c2,c3,c4,c5,c6,c7,c8,c9,c10,c11,c12,c13,c14,c15,c16,c17,c18,c19,c20,c21,c22,c23,c24,c25,c26,c27,c28,c29,c30] :: b) i 1 [d]=a++[c1,d,c3,c4,c5,c6,c7,c8,c9,c10,c11,c12,c13,c14,c15,c16,c17,c18,c19,c20,c21,c22,c23,c24,c25,c26,c27,c28,c29,c30] :: b:=kd a b _ _ i 1 h
theorem krl (a b:Rw) (i:Nat) (h:i=a.length) (c1 c2 c3 c4 c5 c6 c7 c8 c9 c10 c11 c12 c13 c14 c15 c16 c17 c18 c19 c20 c21 c22 c23 c24 c25 c26 c27 c28 c29 c30 d:D):stR (a++[c1,c2,c3,c4,c5,c6,c7,c8,c9,c10,c11,c12,c13,c14,c15,c16,c17,c18,c19,c20,c21,c22,c23,c24,c25,c26,c27,c28,c29,c30] :: b) i 2 [d]=a++[c1,c2,d,c4,c5,c6,c7,c8,c9,c10,c11,c12,c13,c14,c15,c16,c17,c18,c19,c20,c21,c22,c23,c24,c25,c26,c27,c28,c29,c30] :: b:=kd a b _ _ i 2 h
theorem kam (a b:Rw) (i:Nat) (h:i=a.length) (c1 c2 c3 c4 c5 c6 c7 c8 c9 c10 c11 c12 c13 c14 c15 c16 c17 c18 c19 c20 c21 c22 c23 c24 c25 c26 c27 c28 c29 c30 d:D):stR (a++[c1,c2,c3,c4,c5,c6,c7,c8,c9,c10,c11,c12,c13,c14,c15,c16,c17,c18,c19,c20,c21,c22,c23,c24,c25,c26,c27,c28,c29,c30] :: b) i 3 [d]=a++[c1,c2,c3,d,c5,c6,c7,c8,c9,c10,c11,c12,c13,c14,c15,c16,c17,c18,c19,c20,c21,c22,c23,c24,c25,c26,c27,c28,c29,c30] :: b:=kd a b _ _ i 3 h
theorem kkl (a b:Rw) (i:Nat) (h:i=a.length) (c1 c2 c3 c4 c5 c6 c7 c8 c9 c10 c11 c12 c13 c14 c15 c16 c17 c18 c19 c20 c21 c22 c23 c24 c25 c26 c27 c28 c29 c30 d:D):stR (a++[c1,c2,c3,c4,c5,c6,c7,c8,c9,c10,c11,c12,c13,c14,c15,c16,c17,c18,c19,c20,c21,c22,c23,c24,c25,c26,c27,c28,c29,c30] :: b) i 4 [d]=a++[c1,c2,c3,c4,d,c6,c7,c8,c9,c10,c11,c12,c13,c14,c15,c16,c17,c18,c19,c20,c21,c22,c23,c24,c25,c26,c27,c28,c29,c30] :: b:=kd a b _ _ i 4 h
theorem kxl (a b:Rw) (i:Nat) (h:i=a.length) (c1 c2 c3 c4 c5 c6 c7 c8 c9 c10 c11 c12 c13 c14 c15 c16 c17 c18 c19 c20 c21 c22 c23 c24 c25 c26 c27 c28 c29 c30 d:D):stR (a++[c1,c2,c3,c4,c5,c6,c7,c8,c9,c10,c11,c12,c13,c14,c15,c16,c17,c18,c19,c20,c21,c22,c23,c24,c25,c26,c27,c28,c29,c30] :: b) i 5 [d]=a++[c1,c2,c3,c4,c5,d,c7,c8,c9,c10,c11,c12,c13,c14,c15,c16,c17,c18,c19,c20,c21,c22,c23,c24,c25,c26,c27,c28,c29,c30] :: b:=kd a b _ _ i 5 h
theorem kol (a b:Rw) (i:Nat) (h:i=a.length) (c1 c2 c3 c4 c5 c6 c7 c8 c9 c10 c11 c12 c13 c14 c15 c16 c17 c18 c19 c20 c21 c22 c23 c24 c25 c26 c27 c28 c29 c30 d:D):stR (a++[c1,c2,c3,c4,c5,c6,c7,c8,c9,c10,c11,c12,c13,c14,c15,c16,c17,c18,c19,c20,c21,c22,c23,c24,c25,c26,c27,c28,c29,c30] :: b) i 6 [d]=a++[c1,c2,c3,c4,c5,c6,d,c8,c9,c10,c11,c12,c13,c14,c15,c16,c17,c18,c19,c20,c21,c22,c23,c24,c25,c26,c27,c28,c29,c30] :: b:=kd a b _ _ i 6 h
theorem kvl (a b:Rw) (i:Nat) (h:i=a.length) (c1 c2 c3 c4 c5 c6 c7 c8 c9 c10 c11 c12 c13 c14 c15 c16 c17 c18 c19 c20 c21 c22 c23 c24 c25 c26 c27 c28 c29 c30 d:D):stR (a++[c1,c2,c3,c4,c5,c6,c7,c8,c9,c10,c11,c12,c13,c14,c15,c16,c17,c18,c19,c20,c21,c22,c23,c24,c25,c26,c27,c28,c29,c30] :: b) i 7 [d]=a++[c1,c2,c3,c4,c5,c6,c7,d,c9,c10,c11,c12,c13,c14,c15,c16,c17,c18,c19,c20,c21,c22,c23,c24,c25,c26,c27,c28,c29,c30] :: b:=kd a b _ _ i 7 h
theorem kyl (a b:Rw) (i:Nat) (h:i=a.length) (c1 c2 c3 c4 c5 c6 c7 c8 c9 c10 c11 c12 c13 c14 c15 c16 c17 c18 c19 c20 c21 c22 c23 c24 c25 c26 c27 c28 c29 c30 d:D):stR (a++[c1,c2,c3,c4,c5,c6,c7,c8,c9,c10,c11,c12,c13,c14,c15,c16,c17,c18,c19,c20,c21,c22,c23,c24,c25,c26,c27,c28,c29,c30] :: b) i 8 [d]=a++[c1,c2,c3,c4,c5,c6,c7,c8,d,c10,c11,c12,c13,c14,c15,c16,c17,c18,c19,c20,c21,c22,c23,c24,c25,c26,c27,c28,c29,c30] :: b:=kd a b _ _ i 8 h
theorem kll (a b:Rw) (i:Nat) (h:i=a.length) (c1 c2 c3 c4 c5 c6 c7 c8 c9 c10 c11 c12 c13 c14 c15 c16 c17 c18 c19 c20 c21 c22 c23 c24 c25 c26 c27 c28 c29 c30 d:D):stR (a++[c1,c2,c3,c4,c5,c6,c7,c8,c9,c10,c11,c12,c13,c14,c15,c16,c17,c18,c19,c20,c21,c22,c23,c24,c25,c26,c27,c28,c29,c30] :: b) i 9 [d]=a++[c1,c2,c3,c4,c5,c6,c7,c8,c9,d,c11,c12,c13,c14,c15,c16,c17,c18,c19,c20,c21,c22,c23,c24,c25,c26,c27,c28,c29,c30] :: b:=kd a b _ _ i 9 h
theorem kmk (a b:Rw) (i:Nat) (h:i=a.length) (c1 c2 c3 c4 c5 c6 c7 c8 c9 c10 c11 c12 c13 c14 c15 c16 c17 c18 c19 c20 c21 c22 c23 c24 c25 c26 c27 c28 c29 c30 d:D):stR (a++[c1,c2,c3,c4,c5,c6,c7,c8,c9,c10,c11,c12,c13,c14,c15,c16,c17,c18,c19,c20,c21,c22,c23,c24,c25,c26,c27,c28,c29,c30] :: b) i 10 [d]=a++[c1,c2,c3,c4,c5,c6,c7,c8,c9,c10,d,c12,c13,c14,c15,c16,c17,c18,c19,c20,c21,c22,c23,c24,c25,c26,c27,c28,c29,c30] :: b:=kd a b _ _ i 10 h
theorem kal (a b:Rw) (i:Nat) (h:i=a.length) (c1 c2 c3 c4 c5 c6 c7 c8 c9 c10 c11 c12 c13 c14 c15 c16 c17 c18 c19 c20 c21 c22 c23 c24 c25 c26 c27 c28 c29 c30 d:D):stR (a++[c1,c2,c3,c4,c5,c6,c7,c8,c9,c10,c11,c12,c13,c14,c15,c16,c17,c18,c19,c20,c21,c22,c23,c24,c25,c26,c27,c28,c29,c30] :: b) i 11 [d]=a++[c1,c2,c3,c4,c5,c6,c7,c8,c9,c10,c11,d,c13,c14,c15,c16,c17,c18,c19,c20,c21,c22,c23,c24,c25,c26,c27,c28,c29,c30] :: b:=kd a b _ _ i 11 h
theorem kwk (a b:Rw) (i:Nat) (h:i=a.length) (c1 c2 c3 c4 c5 c6 c7 c8 c9 c10 c11 c12 c13 c14 c15 c16 c17 c18 c19 c20 c21 c22 c23 c24 c25 c26 c27 c28 c29 c30 d:D):stR (a++[c1,c2,c3,c4,c5,c6,c7,c8,c9,c10,c11,c12,c13,c14,c15,c16,c17,c18,c19,c20,c21,c22,c23,c24,c25,c26,c27,c28,c29,c30] :: b) i 12 [d]=a++[c1,c2,c3,c4,c5,c6,c7,c8,c9,c10,c11,c12,d,c14,c15,c16,c17,c18,c19,c20,c21,c22,c23,c24,c25,c26,c27,c28,c29,c30] :: b:=kd a b _ _ i 12 h
theorem kdl (a b:Rw) (i:Nat) (h:i=a.length) (c1 c2 c3 c4 c5 c6 c7 c8 c9 c10 c11 c12 c13 c14 c15 c16 c17 c18 c19 c20 c21 c22 c23 c24 c25 c26 c27 c28 c29 c30 d:D):stR (a++[c1,c2,c3,c4,c5,c6,c7,c8,c9,c10,c11,c12,c13,c14,c15,c16,c17,c18,c19,c20,c21,c22,c23,c24,c25,c26,c27,c28,c29,c30] :: b) i 13 [d]=a++[c1,c2,c3,c4,c5,c6,c7,c8,c9,c10,c11,c12,c13,d,c15,c16,c17,c18,c19,c20,c21,c22,c23,c24,c25,c26,c27,c28,c29,c30] :: b:=kd a b _ _ i 13 h
theorem ktk (a b:Rw) (i:Nat) (h:i=a.length) (c1 c2 c3 c4 c5 c6 c7 c8 c9 c10 c11 c12 c13 c14 c15 c16 c17 c18 c19 c20 c21 c22 c23 c24 c25 c26 c27 c28 c29 c30 d:D):stR (a++[c1,c2,c3,c4,c5,c6,c7,c8,c9,c10,c11,c12,c13,c14,c15,c16,c17,c18,c19,c20,c21,c22,c23,c24,c25,c26,c27,c28,c29,c30] :: b) i 14 [d]=a++[c1,c2,c3,c4,c5,c6,c7,c8,c9,c10,c11,c12,c13,c14,d,c16,c17,c18,c19,c20,c21,c22,c23,c24,c25,c26,c27,c28,c29,c30] :: b:=kd a b _ _ i 14 h
theorem kkk (a b:Rw) (i:Nat) (h:i=a.length) (c1 c2 c3 c4 c5 c6 c7 c8 c9 c10 c11 c12 c13 c14 c15 c16 c17 c18 c19 c20 c21 c22 c23 c24 c25 c26 c27 c28 c29 c30 d:D):stR (a++[c1,c2,c3,c4,c5,c6,c7,c8,c9,c10,c11,c12,c13,c14,c15,c16,c17,c18,c19,c20,c21,c22,c23,c24,c25,c26,c27,c28,c29,c30] :: b) i 15 [d]=a++[c1,c2,c3,c4,c5,c6,c7,c8,c9,c10,c11,c12,c13,c14,c15,d,c17,c18,c19,c20,c21,c22,c23,c24,c25,c26,c27,c28,c29,c30] :: b:=kd a b _ _ i 15 h
theorem kok (a b:Rw) (i:Nat) (h:i=a.length) (c1 c2 c3 c4 c5 c6 c7 c8 c9 c10 c11 c12 c13 c14 c15 c16 c17 c18 c19 c20 c21 c22 c23 c24 c25 c26 c27 c28 c29 c30 d:D):stR (a++[c1,c2,c3,c4,c5,c6,c7,c8,c9,c10,c11,c12,c13,c14,c15,c16,c17,c18,c19,c20,c21,c22,c23,c24,c25,c26,c27,c28,c29,c30] :: b) i 16 [d]=a++[c1,c2,c3,c4,c5,c6,c7,c8,c9,c10,c11,c12,c13,c14,c15,c16,d,c18,c19,c20,c21,c22,c23,c24,c25,c26,c27,c28,c29,c30] :: b:=kd a b _ _ i 16 h
theorem kuk (a b:Rw) (i:Nat) (h:i=a.length) (c1 c2 c3 c4 c5 c6 c7 c8 c9 c10 c11 c12 c13 c14 c15 c16 c17 c18 c19 c20 c21 c22 c23 c24 c25 c26 c27 c28 c29 c30 d:D):stR (a++[c1,c2,c3,c4,c5,c6,c7,c8,c9,c10,c11,c12,c13,c14,c15,c16,c17,c18,c19,c20,c21,c22,c23,c24,c25,c26,c27,c28,c29,c30] :: b) i 17 [d]=a++[c1,c2,c3,c4,c5,c6,c7,c8,c9,c10,c11,c12,c13,c14,c15,c16,c17,d,c19,c20,c21,c22,c23,c24,c25,c26,c27,c28,c29,c30] :: b:=kd a b _ _ i 17 h
theorem kbl (a b:Rw) (i:Nat) (h:i=a.length) (c1 c2 c3 c4 c5 c6 c7 c8 c9 c10 c11 c12 c13 c14 c15 c16 c17 c18 c19 c20 c21 c22 c23 c24 c25 c26 c27 c28 c29 c30 d:D):stR (a++[c1,c2,c3,c4,c5,c6,c7,c8,c9,c10,c11,c12,c13,c14,c15,c16,c17,c18,c19,c20,c21,c22,c23,c24,c25,c26,c27,c28,c29,c30] :: b) i 18 [d]=a++[c1,c2,c3,c4,c5,c6,c7,c8,c9,c10,c11,c12,c13,c14,c15,c16,c17,c18,d,c20,c21,c22,c23,c24,c25,c26,c27,c28,c29,c30] :: b:=kd a b _ _ i 18 h
theorem kgl (a b:Rw) (i:Nat) (h:i=a.length) (c1 c2 c3 c4 c5 c6 c7 c8 c9 c10 c11 c12 c13 c14 c15 c16 c17 c18 c19 c20 c21 c22 c23 c24 c25 c26 c27 c28 c29 c30 d:D):stR (a++[c1,c2,c3,c4,c5,c6,c7,c8,c9,c10,c11,c12,c13,c14,c15,c16,c17,c18,c19,c20,c21,c22,c23,c24,c25,c26,c27,c28,c29,c30] :: b) i 19 [d]=a++[c1,c2,c3,c4,c5,c6,c7,c8,c9,c10,c11,c12,c13,c14,c15,c16,c17,c18,c19,d,c21,c22,c23,c24,c25,c26,c27,c28,c29,c30] :: b:=kd a b _ _ i 19 h
theorem kpk (a b:Rw) (i:Nat) (h:i=a.length) (c1 c2 c3 c4 c5 c6 c7 c8 c9 c10 c11 c12 c13 c14 c15 c16 c17 c18 c19 c20 c21 c22 c23 c24 c25 c26 c27 c28 c29 c30 d:D):stR (a++[c1,c2,c3,c4,c5,c6,c7,c8,c9,c10,c11,c12,c13,c14,c15,c16,c17,c18,c19,c20,c21,c22,c23,c24,c25,c26,c27,c28,c29,c30] :: b) i 20 [d]=a++[c1,c2,c3,c4,c5,c6,c7,c8,c9,c10,c11,c12,c13,c14,c15,c16,c17,c18,c19,c20,d,c22,c23,c24,c25,c26,c27,c28,c29,c30] :: b:=kd a b _ _ i 20 h
theorem ksk (a b:Rw) (i:Nat) (h:i=a.length) (c1 c2 c3 c4 c5 c6 c7 c8 c9 c10 c11 c12 c13 c14 c15 c16 c17 c18 c19 c20 c21 c22 c23 c24 c25 c26 c27 c28 c29 c30 d:D):stR (a++[c1,c2,c3,c4,c5,c6,c7,c8,c9,c10,c11,c12,c13,c14,c15,c16,c17,c18,c19,c20,c21,c22,c23,c24,c25,c26,c27,c28,c29,c30] :: b) i 21 [d]=a++[c1,c2,c3,c4,c5,c6,c7,c8,c9,c10,c11,c12,c13,c14,c15,c16,c17,c18,c19,c20,c21,d,c23,c24,c25,c26,c27,c28,c29,c30] :: b:=kd a b _ _ i 21 h
theorem khl (a b:Rw) (i:Nat) (h:i=a.length) (c1 c2 c3 c4 c5 c6 c7 c8 c9 c10 c11 c12 c13 c14 c15 c16 c17 c18 c19 c20 c21 c22 c23 c24 c25 c26 c27 c28 c29 c30 d:D):stR (a++[c1,c2,c3,c4,c5,c6,c7,c8,c9,c10,c11,c12,c13,c14,c15,c16,c17,c18,c19,c20,c21,c22,c23,c24,c25,c26,c27,c28,c29,c30] :: b) i 22 [d]=a++[c1,c2,c3,c4,c5,c6,c7,c8,c9,c10,c11,c12,c13,c14,c15,c16,c17,c18,c19,c20,c21,c22,d,c24,c25,c26,c27,c28,c29,c30] :: b:=kd a b _ _ i 22 h
theorem kvk (a b:Rw) (i:Nat) (h:i=a.length) (c1 c2 c3 c4 c5 c6 c7 c8 c9 c10 c11 c12 c13 c14 c15 c16 c17 c18 c19 c20 c21 c22 c23 c24 c25 c26 c27 c28 c29 c30 d:D):stR (a++[c1,c2,c3,c4,c5,c6,c7,c8,c9,c10,c11,c12,c13,c14,c15,c16,c17,c18,c19,c20,c21,c22,c23,c24,c25,c26,c27,c28,c29,c30] :: b) i 23 [d]=a++[c1,c2,c3,c4,c5,c6,c7,c8,c9,c10,c11,c12,c13,c14,c15,c16,c17,c18,c19,c20,c21,c22,c23,d,c25,c26,c27,c28,c29,c30] :: b:=kd a b _ _ i 23 h
theorem kjk (a b:Rw) (i:Nat) (h:i=a.length) (c1 c2 c3 c4 c5 c6 c7 c8 c9 c10 c11 c12 c13 c14 c15 c16 c17 c18 c19 c20 c21 c22 c23 c24 c25 c26 c27 c28 c29 c30 d:D):stR (a++[c1,c2,c3,c4,c5,c6,c7,c8,c9,c10,c11,c12,c13,c14,c15,c16,c17,c18,c19,c20,c21,c22,c23,c24,c25,c26,c27,c28,c29,c30] :: b) i 24 [d]=a++[c1,c2,c3,c4,c5,c6,c7,c8,c9,c10,c11,c12,c13,c14,c15,c16,c17,c18,c19,c20,c21,c22,c23,c24,d,c26,c27,c28,c29,c30] :: b:=kd a b _ _ i 24 h
theorem kxk (a b:Rw) (i:Nat) (h:i=a.length) (c1 c2 c3 c4 c5 c6 c7 c8 c9 c10 c11 c12 c13 c14 c15 c16 c17 c18 c19 c20 c21 c22 c23 c24 c25 c26 c27 c28 c29 c30 d:D):stR (a++[c1,c2,c3,c4,c5,c6,c7,c8,c9,c10,c11,c12,c13,c14,c15,c16,c17,c18,c19,c20,c21,c22,c23,c24,c25,c26,c27,c28,c29,c30] :: b) i 25 [d]=a++[c1,c2,c3,c4,c5,c6,c7,c8,c9,c10,c11,c12,c13,c14,c15,c16,c17,c18,c19,c20,c21,c22,c23,c24,c25,d,c27,c28,c29,c30] :: b:=kd a b _ _ i 25 h
theorem knk (a b:Rw) (i:Nat) (h:i=a.length) (c1 c2 c3 c4 c5 c6 c7 c8 c9 c10 c11 c12 c13 c14 c15 c16 c17 c18 c19 c20 c21 c22 c23 c24 c25 c26 c27 c28 c29 c30 d:D):stR (a++[c1,c2,c3,c4,c5,c6,c7,c8,c9,c10,c11,c12,c13,c14,c15,c16,c17,c18,c19,c20,c21,c22,c23,c24,c25,c26,c27,c28,c29,c30] :: b) i 26 [d]=a++[c1,c2,c3,c4,c5,c6,c7,c8,c9,c10,c11,c12,c13,c14,c15,c16,c17,c18,c19,c20,c21,c22,c23,c24,c25,c26,d,c28,c29,c30] :: b:=kd a b _ _ i 26 h
theorem klk (a b:Rw) (i:Nat) (h:i=a.length) (c1 c2 c3 c4 c5 c6 c7 c8 c9 c10 c11 c12 c13 c14 c15 c16 c17 c18 c19 c20 c21 c22 c23 c24 c25 c26 c27 c28 c29 c30 d:D):stR (a++[c1,c2,c3,c4,c5,c6,c7,c8,c9,c10,c11,c12,c13,c14,c15,c16,c17,c18,c19,c20,c21,c22,c23,c24,c25,c26,c27,c28,c29,c30] :: b) i 27 [d]=a++[c1,c2,c3,c4,c5,c6,c7,c8,c9,c10,c11,c12,c13,c14,c15,c16,c17,c18,c19,c20,c21,c22,c23,c24,c25,c26,c27,d,c29,c30] :: b:=kd a b _ _ i 27 h
theorem kqk (a b:Rw) (i:Nat) (h:i=a.length) (c1 c2 c3 c4 c5 c6 c7 c8 c9 c10 c11 c12 c13 c14 c15 c16 c17 c18 c19 c20 c21 c22 c23 c24 c25 c26 c27 c28 c29 c30 d:D):stR (a++[c1,c2,c3,c4,c5,c6,c7,c8,c9,c10,c11,c12,c13,c14,c15,c16,c17,c18,c19,c20,c21,c22,c23,c24,c25,c26,c27,c28,c29,c30] :: b) i 28 [d]=a++[c1,c2,c3,c4,c5,c6,c7,c8,c9,c10,c11,c12,c13,c14,c15,c16,c17,c18,c19,c20,c21,c22,c23,c24,c25,c26,c27,c28,d,c30] :: b:=kd a b _ _ i 28 h
theorem krk (a b:Rw) (i:Nat) (h:i=a.length) (c1 c2 c3 c4 c5 c6 c7 c8 c9 c10 c11 c12 c13 c14 c15 c16 c17 c18 c19 c20 c21 c22 c23 c24 c25 c26 c27 c28 c29 c30 d:D):stR (a++[c1,c2,c3,c4,c5,c6,c7,c8,c9,c10,c11,c12,c13,c14,c15,c16,c17,c18,c19,c20,c21,c22,c23,c24,c25,c26,c27,c28,c29,c30] :: b) i 29 [d]=a++[c1,c2,c3,c4,c5,c6,c7,c8,c9,c10,c11,c12,c13,c14,c15,c16,c17,c18,c19,c20,c21,c22,c23,c24,c25,c26,c27,c28,c29,d] :: b:=kd a b _ _ i 29 h
theorem kgj (k z11 z13 z14 z15 z16 z25 z26 z27 zb:Int) (h0:0≤k) (hz11:0≤z11) (hz13:0≤z13) (hz14:0≤z14) (hz15:0≤z15) (hz16:0≤z16) (hz25:0≤z25) (hz26:0≤z26) (hz27:0≤z27) (hb:0≤zb) (hk:k+1+1+1+1+1+1+1+1+1+1+1+2 * z11+1+1 * z13+1 * z14+1 * z15+z16+1+1+1+1+1+1+1+1+2 * z25+5 * z26+9 * z27+1+1+zb≤4000000000000000000):w64 (k+1)=k+1∧w64 (k+1+1)=k+1+1∧w64 (k+1+1+1)=k+1+1+1∧w64 (k+1+1+1+1)=k+1+1+1+1∧w64 (k+1+1+1+1+1)=k+1+1+1+1+1∧w64 (k+1+1+1+1+1+1)=k+1+1+1+1+1+1∧w64 (k+1+1+1+1+1+1+1)=k+1+1+1+1+1+1+1∧w64 (k+1+1+1+1+1+1+1+1)=k+1+1+1+1+1+1+1+1∧w64 (k+1+1+1+1+1+1+1+1+1)=k+1+1+1+1+1+1+1+1+1∧w64 (k+1+1+1+1+1+1+1+1+1+1)=k+1+1+1+1+1+1+1+1+1+1∧w64 (k+1+1+1+1+1+1+1+1+1+1+1)=k+1+1+1+1+1+1+1+1+1+1+1∧w64 (k+1+1+1+1+1+1+1+1+1+1+1+2 * z11+1)=k+1+1+1+1+1+1+1+1+1+1+1+2 * z11+1∧w64 (k+1+1+1+1+1+1+1+1+1+1+1+2 * z11+1+1 * z13+1 * z14+1 * z15+z16+1)=k+1+1+1+1+1+1+1+1+1+1+1+2 * z11+1+1 * z13+1 * z14+1 * z15+z16+1∧w64 (k+1+1+1+1+1+1+1+1+1+1+1+2 * z11+1+1 * z13+1 * z14+1 * z15+z16+1+1)=k+1+1+1+1+1+1+1+1+1+1+1+2 * z11+1+1 * z13+1 * z14+1 * z15+z16+1+1∧w64 (k+1+1+1+1+1+1+1+1+1+1+1+2 * z11+1+1 * z13+1 * z14+1 * z15+z16+1+1+1)=k+1+1+1+1+1+1+1+1+1+1+1+2 * z11+1+1 * z13+1 * z14+1 * z15+z16+1+1+1∧w64 (k+1+1+1+1+1+1+1+1+1+1+1+2 * z11+1+1 * z13+1 * z14+1 * z15+z16+1+1+1+1)=k+1+1+1+1+1+1+1+1+1+1+1+2 * z11+1+1 * z13+1 * z14+1 * z15+z16+1+1+1+1∧w64 (k+1+1+1+1+1+1+1+1+1+1+1+2 * z11+1+1 * z13+1 * z14+1 * z15+z16+1+1+1+1+1)=k+1+1+1+1+1+1+1+1+1+1+1+2 * z11+1+1 * z13+1 * z14+1 * z15+z16+1+1+1+1+1∧w64 (k+1+1+1+1+1+1+1+1+1+1+1+2 * z11+1+1 * z13+1 * z14+1 * z15+z16+1+1+1+1+1+1)=k+1+1+1+1+1+1+1+1+1+1+1+2 * z11+1+1 * z13+1 * z14+1 * z15+z16+1+1+1+1+1+1∧w64 (k+1+1+1+1+1+1+1+1+1+1+1+2 * z11+1+1 * z13+1 * z14+1 * z15+z16+1+1+1+1+1+1+1)=k+1+1+1+1+1+1+1+1+1+1+1+2 * z11+1+1 * z13+1 * z14+1 * z15+z16+1+1+1+1+1+1+1∧w64 (k+1+1+1+1+1+1+1+1+1+1+1+2 * z11+1+1 * z13+1 * z14+1 * z15+z16+1+1+1+1+1+1+1+1)=k+1+1+1+1+1+1+1+1+1+1+1+2 * z11+1+1 * z13+1 * z14+1 * z15+z16+1+1+1+1+1+1+1+1∧w64 (k+1+1+1+1+1+1+1+1+1+1+1+2 * z11+1+1 * z13+1 * z14+1 * z15+z16+1+1+1+1+1+1+1+1+2 * z25+5 * z26+9 * z27+1)=k+1+1+1+1+1+1+1+1+1+1+1+2 * z11+1+1 * z13+1 * z14+1 * z15+z16+1+1+1+1+1+1+1+1+2 * z25+5 * z26+9 * z27+1∧w64 (k+1+1+1+1+1+1+1+1+1+1+1+2 * z11+1+1 * z13+1 * z14+1 * z15+z16+1+1+1+1+1+1+1+1+2 * z25+5 * z26+9 * z27+1+1)=k+1+1+1+1+1+1+1+1+1+1+1+2 * z11+1+1 * z13+1 * z14+1 * z15+z16+1+1+1+1+1+1+1+1+2 * z25+5 * z26+9 * z27+1+1∧k+1+1+1+1+1+1+1+1+1+1+1+2 * z11+1+1 * z13+1 * z14+1 * z15+z16+1+1 < 4611686018427387904∧k+1+1+1+1+1+1+1+1+1+1+1+2 * z11+1+1 * z13+1 * z14+1 * z15+z16+1+1+1+1+1+1+1 < 4611686018427387904∧0≤k+1+1+1+1+1+1+1+1+1+1+1∧k+1+1+1+1+1+1+1+1+1+1+1+2 * z11≤4000000000000000000∧0≤k+1+1+1+1+1+1+1+1+1+1+1+2 * z11∧0≤k+1+1+1+1+1+1+1+1+1+1+1+2 * z11+1∧k+1+1+1+1+1+1+1+1+1+1+1+2 * z11+1+1 * z13≤4000000000000000000∧0≤k+1+1+1+1+1+1+1+1+1+1+1+2 * z11+1+1 * z13∧0≤k+1+1+1+1+1+1+1+1+1+1+1+2 * z11+1+1 * z13∧k+1+1+1+1+1+1+1+1+1+1+1+2 * z11+1+1 * z13+1 * z14≤4000000000000000000∧0≤k+1+1+1+1+1+1+1+1+1+1+1+2 * z11+1+1 * z13+1 * z14∧0≤k+1+1+1+1+1+1+1+1+1+1+1+2 * z11+1+1 * z13+1 * z14∧k+1+1+1+1+1+1+1+1+1+1+1+2 * z11+1+1 * z13+1 * z14+1 * z15≤4000000000000000000∧0≤k+1+1+1+1+1+1+1+1+1+1+1+2 * z11+1+1 * z13+1 * z14+1 * z15∧0≤k+1+1+1+1+1+1+1+1+1+1+1+2 * z11+1+1 * z13+1 * z14+1 * z15∧k+1+1+1+1+1+1+1+1+1+1+1+2 * z11+1+1 * z13+1 * z14+1 * z15+z16≤4000000000000000000∧0≤k+1+1+1+1+1+1+1+1+1+1+1+2 * z11+1+1 * z13+1 * z14+1 * z15+z16∧0≤k+1+1+1+1+1+1+1+1+1+1+1+2 * z11+1+1 * z13+1 * z14+1 * z15+z16+1+1+1+1+1+1+1+1∧k+1+1+1+1+1+1+1+1+1+1+1+2 * z11+1+1 * z13+1 * z14+1 * z15+z16+1+1+1+1+1+1+1+1+2 * z25≤4000000000000000000∧0≤k+1+1+1+1+1+1+1+1+1+1+1+2 * z11+1+1 * z13+1 * z14+1 * z15+z16+1+1+1+1+1+1+1+1+2 * z25∧0≤k+1+1+1+1+1+1+1+1+1+1+1+2 * z11+1+1 * z13+1 * z14+1 * z15+z16+1+1+1+1+1+1+1+1+2 * z25∧k+1+1+1+1+1+1+1+1+1+1+1+2 * z11+1+1 * z13+1 * z14+1 * z15+z16+1+1+1+1+1+1+1+1+2 * z25+5 * z26≤4000000000000000000∧0≤k+1+1+1+1+1+1+1+1+1+1+1+2 * z11+1+1 * z13+1 * z14+1 * z15+z16+1+1+1+1+1+1+1+1+2 * z25+5 * z26∧0≤k+1+1+1+1+1+1+1+1+1+1+1+2 * z11+1+1 * z13+1 * z14+1 * z15+z16+1+1+1+1+1+1+1+1+2 * z25+5 * z26∧k+1+1+1+1+1+1+1+1+1+1+1+2 * z11+1+1 * z13+1 * z14+1 * z15+z16+1+1+1+1+1+1+1+1+2 * z25+5 * z26+9 * z27≤4000000000000000000∧0≤k+1+1+1+1+1+1+1+1+1+1+1+2 * z11+1+1 * z13+1 * z14+1 * z15+z16+1+1+1+1+1+1+1+1+2 * z25+5 * z26+9 * z27∧0≤k+1+1+1+1+1+1+1+1+1+1+1+2 * z11+1+1 * z13+1 * z14+1 * z15+z16+1+1+1+1+1+1+1+1+2 * z25+5 * z26+9 * z27+1+1:=by
 have W:∀z:Int,0≤z→z≤4000000000000000000→w64 z=z:=fun z h1 h2=>kb z (by omega)
 have l1:0≤k+1:=Int.add_nonneg h0 (by decide)
 have l2:0≤k+1+1:=Int.add_nonneg l1 (by decide)
 have l3:0≤k+1+1+1:=Int.add_nonneg l2 (by decide)
 have l4:0≤k+1+1+1+1:=Int.add_nonneg l3 (by decide)
 have l5:0≤k+1+1+1+1+1:=Int.add_nonneg l4 (by decide)
 have l6:0≤k+1+1+1+1+1+1:=Int.add_nonneg l5 (by decide)
 have l7:0≤k+1+1+1+1+1+1+1:=Int.add_nonneg l6 (by decide)
 have l8:0≤k+1+1+1+1+1+1+1+1:=Int.add_nonneg l7 (by decide)
 have l9:0≤k+1+1+1+1+1+1+1+1+1:=Int.add_nonneg l8 (by decide)
 have l10:0≤k+1+1+1+1+1+1+1+1+1+1:=Int.add_nonneg l9 (by decide)
 have l0:0≤k+1+1+1+1+1+1+1+1+1+1+1:=Int.add_nonneg l10 (by decide)
 have l12:0≤k+1+1+1+1+1+1+1+1+1+1+1+2 * z11:=Int.add_nonneg l0 (Int.mul_nonneg (by decide) hz11)
 have l13:0≤k+1+1+1+1+1+1+1+1+1+1+1+2 * z11+1:=Int.add_nonneg l12 (by decide)
 have l14:0≤k+1+1+1+1+1+1+1+1+1+1+1+2 * z11+1+1 * z13:=Int.add_nonneg l13 (Int.mul_nonneg (by decide) hz13)
 have l15:0≤k+1+1+1+1+1+1+1+1+1+1+1+2 * z11+1+1 * z13+1 * z14:=Int.add_nonneg l14 (Int.mul_nonneg (by decide) hz14)
 have l16:0≤k+1+1+1+1+1+1+1+1+1+1+1+2 * z11+1+1 * z13+1 * z14+1 * z15:=Int.add_nonneg l15 (Int.mul_nonneg (by decide) hz15)
 have l17:0≤k+1+1+1+1+1+1+1+1+1+1+1+2 * z11+1+1 * z13+1 * z14+1 * z15+z16:=Int.add_nonneg l16 hz16
 have l18:0≤k+1+1+1+1+1+1+1+1+1+1+1+2 * z11+1+1 * z13+1 * z14+1 * z15+z16+1:=Int.add_nonneg l17 (by decide)
 have l19:0≤k+1+1+1+1+1+1+1+1+1+1+1+2 * z11+1+1 * z13+1 * z14+1 * z15+z16+1+1:=Int.add_nonneg l18 (by decide)
 have l20:0≤k+1+1+1+1+1+1+1+1+1+1+1+2 * z11+1+1 * z13+1 * z14+1 * z15+z16+1+1+1:=Int.add_nonneg l19 (by decide)
 have l21:0≤k+1+1+1+1+1+1+1+1+1+1+1+2 * z11+1+1 * z13+1 * z14+1 * z15+z16+1+1+1+1:=Int.add_nonneg l20 (by decide)
 have l22:0≤k+1+1+1+1+1+1+1+1+1+1+1+2 * z11+1+1 * z13+1 * z14+1 * z15+z16+1+1+1+1+1:=Int.add_nonneg l21 (by decide)
 have l23:0≤k+1+1+1+1+1+1+1+1+1+1+1+2 * z11+1+1 * z13+1 * z14+1 * z15+z16+1+1+1+1+1+1:=Int.add_nonneg l22 (by decide)
 have l24:0≤k+1+1+1+1+1+1+1+1+1+1+1+2 * z11+1+1 * z13+1 * z14+1 * z15+z16+1+1+1+1+1+1+1:=Int.add_nonneg l23 (by decide)
 have l25:0≤k+1+1+1+1+1+1+1+1+1+1+1+2 * z11+1+1 * z13+1 * z14+1 * z15+z16+1+1+1+1+1+1+1+1:=Int.add_nonneg l24 (by decide)
 have l26:0≤k+1+1+1+1+1+1+1+1+1+1+1+2 * z11+1+1 * z13+1 * z14+1 * z15+z16+1+1+1+1+1+1+1+1+2 * z25:=Int.add_nonneg l25 (Int.mul_nonneg (by decide) hz25)
 have l27:0≤k+1+1+1+1+1+1+1+1+1+1+1+2 * z11+1+1 * z13+1 * z14+1 * z15+z16+1+1+1+1+1+1+1+1+2 * z25+5 * z26:=Int.add_nonneg l26 (Int.mul_nonneg (by decide) hz26)
 have l28:0≤k+1+1+1+1+1+1+1+1+1+1+1+2 * z11+1+1 * z13+1 * z14+1 * z15+z16+1+1+1+1+1+1+1+1+2 * z25+5 * z26+9 * z27:=Int.add_nonneg l27 (Int.mul_nonneg (by decide) hz27)
 have l29:0≤k+1+1+1+1+1+1+1+1+1+1+1+2 * z11+1+1 * z13+1 * z14+1 * z15+z16+1+1+1+1+1+1+1+1+2 * z25+5 * z26+9 * z27+1:=Int.add_nonneg l28 (by decide)
 have l30:0≤k+1+1+1+1+1+1+1+1+1+1+1+2 * z11+1+1 * z13+1 * z14+1 * z15+z16+1+1+1+1+1+1+1+1+2 * z25+5 * z26+9 * z27+1+1:=Int.add_nonneg l29 (by decide)
 have r30:k+1+1+1+1+1+1+1+1+1+1+1+2 * z11+1+1 * z13+1 * z14+1 * z15+z16+1+1+1+1+1+1+1+1+2 * z25+5 * z26+9 * z27+1+1≤4000000000000000000:=Int.le_trans (Int.le_add_of_nonneg_right hb) hk
 have r29:k+1+1+1+1+1+1+1+1+1+1+1+2 * z11+1+1 * z13+1 * z14+1 * z15+z16+1+1+1+1+1+1+1+1+2 * z25+5 * z26+9 * z27+1≤4000000000000000000:=Int.le_trans (Int.le_add_of_nonneg_right (by decide)) r30
 have r28:k+1+1+1+1+1+1+1+1+1+1+1+2 * z11+1+1 * z13+1 * z14+1 * z15+z16+1+1+1+1+1+1+1+1+2 * z25+5 * z26+9 * z27≤4000000000000000000:=Int.le_trans (Int.le_add_of_nonneg_right (by decide)) r29
 have r27:k+1+1+1+1+1+1+1+1+1+1+1+2 * z11+1+1 * z13+1 * z14+1 * z15+z16+1+1+1+1+1+1+1+1+2 * z25+5 * z26≤4000000000000000000:=Int.le_trans (Int.le_add_of_nonneg_right (Int.mul_nonneg (by decide) hz27)) r28
 have r26:k+1+1+1+1+1+1+1+1+1+1+1+2 * z11+1+1 * z13+1 * z14+1 * z15+z16+1+1+1+1+1+1+1+1+2 * z25≤4000000000000000000:=Int.le_trans (Int.le_add_of_nonneg_right (Int.mul_nonneg (by decide) hz26)) r27
 have r25:k+1+1+1+1+1+1+1+1+1+1+1+2 * z11+1+1 * z13+1 * z14+1 * z15+z16+1+1+1+1+1+1+1+1≤4000000000000000000:=Int.le_trans (Int.le_add_of_nonneg_right (Int.mul_nonneg (by decide) hz25)) r26
 have r24:k+1+1+1+1+1+1+1+1+1+1+1+2 * z11+1+1 * z13+1 * z14+1 * z15+z16+1+1+1+1+1+1+1≤4000000000000000000:=Int.le_trans (Int.le_add_of_nonneg_right (by decide)) r25
 have r23:k+1+1+1+1+1+1+1+1+1+1+1+2 * z11+1+1 * z13+1 * z14+1 * z15+z16+1+1+1+1+1+1≤4000000000000000000:=Int.le_trans (Int.le_add_of_nonneg_right (by decide)) r24
 have r22:k+1+1+1+1+1+1+1+1+1+1+1+2 * z11+1+1 * z13+1 * z14+1 * z15+z16+1+1+1+1+1≤4000000000000000000:=Int.le_trans (Int.le_add_of_nonneg_right (by decide)) r23
 have r21:k+1+1+1+1+1+1+1+1+1+1+1+2 * z11+1+1 * z13+1 * z14+1 * z15+z16+1+1+1+1≤4000000000000000000:=Int.le_trans (Int.le_add_of_nonneg_right (by decide)) r22
 have r20:k+1+1+1+1+1+1+1+1+1+1+1+2 * z11+1+1 * z13+1 * z14+1 * z15+z16+1+1+1≤4000000000000000000:=Int.le_trans (Int.le_add_of_nonneg_right (by decide)) r21
 have r19:k+1+1+1+1+1+1+1+1+1+1+1+2 * z11+1+1 * z13+1 * z14+1 * z15+z16+1+1≤4000000000000000000:=Int.le_trans (Int.le_add_of_nonneg_right (by decide)) r20
 have r18:k+1+1+1+1+1+1+1+1+1+1+1+2 * z11+1+1 * z13+1 * z14+1 * z15+z16+1≤4000000000000000000:=Int.le_trans (Int.le_add_of_nonneg_right (by decide)) r19
 have r17:k+1+1+1+1+1+1+1+1+1+1+1+2 * z11+1+1 * z13+1 * z14+1 * z15+z16≤4000000000000000000:=Int.le_trans (Int.le_add_of_nonneg_right (by decide)) r18
 have r16:k+1+1+1+1+1+1+1+1+1+1+1+2 * z11+1+1 * z13+1 * z14+1 * z15≤4000000000000000000:=Int.le_trans (Int.le_add_of_nonneg_right hz16) r17
 have r15:k+1+1+1+1+1+1+1+1+1+1+1+2 * z11+1+1 * z13+1 * z14≤4000000000000000000:=Int.le_trans (Int.le_add_of_nonneg_right (Int.mul_nonneg (by decide) hz15)) r16
 have r14:k+1+1+1+1+1+1+1+1+1+1+1+2 * z11+1+1 * z13≤4000000000000000000:=Int.le_trans (Int.le_add_of_nonneg_right (Int.mul_nonneg (by decide) hz14)) r15
 have r13:k+1+1+1+1+1+1+1+1+1+1+1+2 * z11+1≤4000000000000000000:=Int.le_trans (Int.le_add_of_nonneg_right (Int.mul_nonneg (by decide) hz13)) r14
 have r12:k+1+1+1+1+1+1+1+1+1+1+1+2 * z11≤4000000000000000000:=Int.le_trans (Int.le_add_of_nonneg_right (by decide)) r13
 have r11:k+1+1+1+1+1+1+1+1+1+1+1≤4000000000000000000:=Int.le_trans (Int.le_add_of_nonneg_right (Int.mul_nonneg (by decide) hz11)) r12
 have r10:k+1+1+1+1+1+1+1+1+1+1≤4000000000000000000:=Int.le_trans (Int.le_add_of_nonneg_right (by decide)) r11
 have r9:k+1+1+1+1+1+1+1+1+1≤4000000000000000000:=Int.le_trans (Int.le_add_of_nonneg_right (by decide)) r10
 have r8:k+1+1+1+1+1+1+1+1≤4000000000000000000:=Int.le_trans (Int.le_add_of_nonneg_right (by decide)) r9
 have r7:k+1+1+1+1+1+1+1≤4000000000000000000:=Int.le_trans (Int.le_add_of_nonneg_right (by decide)) r8
 have r6:k+1+1+1+1+1+1≤4000000000000000000:=Int.le_trans (Int.le_add_of_nonneg_right (by decide)) r7
 have r5:k+1+1+1+1+1≤4000000000000000000:=Int.le_trans (Int.le_add_of_nonneg_right (by decide)) r6
 have r4:k+1+1+1+1≤4000000000000000000:=Int.le_trans (Int.le_add_of_nonneg_right (by decide)) r5
 have r3:k+1+1+1≤4000000000000000000:=Int.le_trans (Int.le_add_of_nonneg_right (by decide)) r4
 have r2:k+1+1≤4000000000000000000:=Int.le_trans (Int.le_add_of_nonneg_right (by decide)) r3
 have r1:k+1≤4000000000000000000:=Int.le_trans (Int.le_add_of_nonneg_right (by decide)) r2
 have r0:k≤4000000000000000000:=Int.le_trans (Int.le_add_of_nonneg_right (by decide)) r1
 exact ⟨W _ l1 r1,W _ l2 r2,W _ l3 r3,W _ l4 r4,W _ l5 r5,W _ l6 r6,W _ l7 r7,W _ l8 r8,W _ l9 r9,W _ l10 r10,W _ l0 r11,W _ l13 r13,W _ l18 r18,W _ l19 r19,W _ l20 r20,W _ l21 r21,W _ l22 r22,W _ l23 r23,W _ l24 r24,W _ l25 r25,W _ l29 r29,W _ l30 r30,Int.lt_of_le_of_lt r19 (by decide),Int.lt_of_le_of_lt r24 (by decide),l0,r12,l12,l13,r14,l14,l14,r15,l15,l15,r16,l16,l16,r17,l17,l25,r26,l26,l26,r27,l27,l27,r28,l28,l30⟩
set_option maxHeartbeats 4000000 in theorem markNodeS_loop (n8 : Int) (q : Int → Int → Bool → Rw → Rs) (hq : ∀ a b c d, q a b c d = some ([.one (.i .i64 a)], [[.l d]])) : ∀ (b a : Rw) (m : Nat) (k : Int) (v10 : SV), (∀ r ∈ b, typL ky r) → (∀ r ∈ b, szdL ky r) → b.length < m → a.length + b.length ≤ 4000000 → 0 ≤ k → k + kf b ≤ 4000000000000000000 →
  la39o0 t27 t29 t42 t65 t70 t71 n8 q m k (a.length:Int) v10 (a++b)=some ([.one (.i .i64 (k+kf b))],[[.l (a++kab k b)]]):=by
 intro b
 induction b with
 | nil =>
  intro a m k v10 h hs hm hl h0 hk
  obtain ⟨m,rfl⟩:∃m',m=m' + 1:=⟨m - 1,by omega⟩
  have e:decide ((a.length:Int) < ((a++([]:Rw)).length:Int))=false:=by simp
  have e2:k+kf []=k:=by simp [kf]
  simp only [la39o0,e,bft,if_false,hq,e2,kab]
 | cons r b ih =>
  intro a m k v10 h hs hm hl h0 hk
  obtain ⟨m,rfl⟩:∃m',m=m' + 1:=⟨m - 1,by omega⟩
  simp only [List.length_cons] at hm hl
  have hz:=hs r (List.mem_cons_self ..)
  obtain ⟨x1,x2,x3,x4,x5,x6,x7,x8,x9,x10,x11,x12,x13,x14,x15,x16,x17,x18,x19,x20,x21,x22,x23,x24,x25,x26,x27,x28,x29,x30,rfl,wx12,tx12,wx14,tx14,wx15,tx15,wx16,tx16,wx17,tx17,wx20,wx25,wx26,tx26,wx27,tx27,wx28,tx28⟩:=kee (h r (List.mem_cons_self ..))
  have hb:∀r∈b,typL ky r:=fun r hr=>h r (List.mem_cons_of_mem _ hr)
  have hb2:∀r∈b,szdL ky r:=fun r hr=>hs r (List.mem_cons_of_mem _ hr)
  have sx12:x12.length≤1048576∧∀r∈x12,szdL ki r:=hz.2.2.2.2.2.2.2.2.2.2.2.1
  have sx14:x14.length≤1048576∧∀r∈x14,szdL kr r:=hz.2.2.2.2.2.2.2.2.2.2.2.2.2.1
  have sx15:x15.length≤1048576∧∀r∈x15,szdL kr r:=hz.2.2.2.2.2.2.2.2.2.2.2.2.2.2.1
  have sx16:x16.length≤1048576∧∀r∈x16,szdL kr r:=hz.2.2.2.2.2.2.2.2.2.2.2.2.2.2.2.1
  have sx17:x17.length≤1048576∧∀r∈x17,szdL ko r:=hz.2.2.2.2.2.2.2.2.2.2.2.2.2.2.2.2.1
  have sx26:x26.length≤1048576∧∀r∈x26,szdL ki r:=hz.2.2.2.2.2.2.2.2.2.2.2.2.2.2.2.2.2.2.2.2.2.2.2.2.2.1
  have sx27:x27.length≤1048576∧∀r∈x27,szdL kcc r:=hz.2.2.2.2.2.2.2.2.2.2.2.2.2.2.2.2.2.2.2.2.2.2.2.2.2.2.1
  have sx28:x28.length≤1048576∧∀r∈x28,szdL kdd r:=hz.2.2.2.2.2.2.2.2.2.2.2.2.2.2.2.2.2.2.2.2.2.2.2.2.2.2.2.1
  have lx12:=sx12.1
  have lx14:=sx14.1
  have lx15:=sx15.1
  have lx16:=sx16.1
  have lx17:=sx17.1
  have lx26:=sx26.1
  have lx27:=sx27.1
  have lx28:=sx28.1
  have qx17:=kzb x17
  have nb:=klc b
  have hw:=kg a.length (by omega)
  have hmb:b.length < m:=by omega
  have hlb:∀r:List D,(a++[r]).length+b.length≤4000000:=fun r=>by simp;omega
  have e1:∀r:List D,decide ((a.length:Int) < ((a++r :: b).length:Int))=true:=fun r=>decide_eq_true (by simp;omega)
  have e0:decide (0≤(a.length:Int))=true:=decide_eq_true (by omega)
  have eg:∀(r:List D),(a++r :: b).getD a.length []=r:=fun r=>kmb a b r _ rfl
  have p0:∀r:List D,decide (1≤30∧a.length < (a++r :: b).length)=true:=fun r=>decide_eq_true (by simp)
  have p1:∀r:List D,decide (2≤30∧a.length < (a++r :: b).length)=true:=fun r=>decide_eq_true (by simp)
  have p2:∀r:List D,decide (3≤30∧a.length < (a++r :: b).length)=true:=fun r=>decide_eq_true (by simp)
  have p3:∀r:List D,decide (4≤30∧a.length < (a++r :: b).length)=true:=fun r=>decide_eq_true (by simp)
  have p4:∀r:List D,decide (5≤30∧a.length < (a++r :: b).length)=true:=fun r=>decide_eq_true (by simp)
  have p5:∀r:List D,decide (6≤30∧a.length < (a++r :: b).length)=true:=fun r=>decide_eq_true (by simp)
  have p6:∀r:List D,decide (7≤30∧a.length < (a++r :: b).length)=true:=fun r=>decide_eq_true (by simp)
  have p7:∀r:List D,decide (8≤30∧a.length < (a++r :: b).length)=true:=fun r=>decide_eq_true (by simp)
  have p8:∀r:List D,decide (9≤30∧a.length < (a++r :: b).length)=true:=fun r=>decide_eq_true (by simp)
  have p9:∀r:List D,decide (10≤30∧a.length < (a++r :: b).length)=true:=fun r=>decide_eq_true (by simp)
  have p10:∀r:List D,decide (11≤30∧a.length < (a++r :: b).length)=true:=fun r=>decide_eq_true (by simp)
  have p12:∀r:List D,decide (13≤30∧a.length < (a++r :: b).length)=true:=fun r=>decide_eq_true (by simp)
  have p17:∀r:List D,decide (18≤30∧a.length < (a++r :: b).length)=true:=fun r=>decide_eq_true (by simp)
  have p18:∀r:List D,decide (19≤30∧a.length < (a++r :: b).length)=true:=fun r=>decide_eq_true (by simp)
  have p19:∀r:List D,decide (20≤30∧a.length < (a++r :: b).length)=true:=fun r=>decide_eq_true (by simp)
  have p20:∀r:List D,decide (21≤30∧a.length < (a++r :: b).length)=true:=fun r=>decide_eq_true (by simp)
  have p21:∀r:List D,decide (22≤30∧a.length < (a++r :: b).length)=true:=fun r=>decide_eq_true (by simp)
  have p22:∀r:List D,decide (23≤30∧a.length < (a++r :: b).length)=true:=fun r=>decide_eq_true (by simp)
  have p23:∀r:List D,decide (24≤30∧a.length < (a++r :: b).length)=true:=fun r=>decide_eq_true (by simp)
  have p24:∀r:List D,decide (25≤30∧a.length < (a++r :: b).length)=true:=fun r=>decide_eq_true (by simp)
  have p28:∀r:List D,decide (29≤30∧a.length < (a++r :: b).length)=true:=fun r=>decide_eq_true (by simp)
  have p29:∀r:List D,decide (30≤30∧a.length < (a++r :: b).length)=true:=fun r=>decide_eq_true (by simp)
  have e6:k+kec [.i .i64 x1,.i .i64 x2,.b x3,.i .i64 x4,.i .i64 x5,.i .i64 x6,.i .i64 x7,.i .i64 x8,.i .i64 x9,.i .i64 x10,.i .i64 x11,.l x12,.i .i64 x13,.l x14,.l x15,.l x16,.l x17,.i .i64 x18,.i .i64 x19,.s x20,.i .i64 x21,.i .i64 x22,.i .i64 x23,.i .i64 x24,.s x25,.l x26,.l x27,.l x28,.i .i64 x29,.i .i64 x30]=k+1+1+1+1+1+1+1+1+1+1+1+2 * (x12.length:Int)+1+1 * (x14.length:Int)+1 * (x15.length:Int)+1 * (x16.length:Int)+kc x17+1+1+1+1+1+1+1+1+2 * (x26.length:Int)+5 * (x27.length:Int)+9 * (x28.length:Int)+1+1:=by simp only [kec,nthD,asL];omega
  have e7:k+kf ([.i .i64 x1,.i .i64 x2,.b x3,.i .i64 x4,.i .i64 x5,.i .i64 x6,.i .i64 x7,.i .i64 x8,.i .i64 x9,.i .i64 x10,.i .i64 x11,.l x12,.i .i64 x13,.l x14,.l x15,.l x16,.l x17,.i .i64 x18,.i .i64 x19,.s x20,.i .i64 x21,.i .i64 x22,.i .i64 x23,.i .i64 x24,.s x25,.l x26,.l x27,.l x28,.i .i64 x29,.i .i64 x30] :: b)=k+1+1+1+1+1+1+1+1+1+1+1+2 * (x12.length:Int)+1+1 * (x14.length:Int)+1 * (x15.length:Int)+1 * (x16.length:Int)+kc x17+1+1+1+1+1+1+1+1+2 * (x26.length:Int)+5 * (x27.length:Int)+9 * (x28.length:Int)+1+1+kf b:=by rw [kf,←Int.add_assoc,e6]
  rw [e7] at hk
  obtain ⟨u0,u1,u2,u3,u4,u5,u6,u7,u8,u9,u10,u12,u17,u18,u19,u20,u21,u22,u23,u24,u28,u29,y19,y24,ga11,gb11,gc11,ga13,gb13,gc13,ga14,gb14,gc14,ga15,gb15,gc15,ga16,gb16,gc16,ga25,gb25,gc25,ga26,gb26,gc26,ga27,gb27,gc27,gf⟩:=kgj k (x12.length:Int) (x14.length:Int) (x15.length:Int) (x16.length:Int) (kc x17) (x26.length:Int) (x27.length:Int) (x28.length:Int) (kf b) h0 (Int.natCast_nonneg _) (Int.natCast_nonneg _) (Int.natCast_nonneg _) (Int.natCast_nonneg _) qx17 (Int.natCast_nonneg _) (Int.natCast_nonneg _) (Int.natCast_nonneg _) nb hk
  have t19:=kk (k+1+1+1+1+1+1+1+1+1+1+1+2 * (x12.length:Int)+1+1 * (x14.length:Int)+1 * (x15.length:Int)+1 * (x16.length:Int)+kc x17+1+1) y19
  have t24:=kk (k+1+1+1+1+1+1+1+1+1+1+1+2 * (x12.length:Int)+1+1 * (x14.length:Int)+1 * (x15.length:Int)+1 * (x16.length:Int)+kc x17+1+1+1+1+1+1+1) y24
  have m11:=krc x12 (fun r hr=>kn _ r (tx12 r hr)) (Nat.le_trans lx12 (by decide)) (k+1+1+1+1+1+1+1+1+1+1+1) ga11 gb11
  have m13:=khd x14 (fun r hr=>kn _ r (tx14 r hr)) (Nat.le_trans lx14 (by decide)) (k+1+1+1+1+1+1+1+1+1+1+1+2 * (x12.length:Int)+1) ga13 gb13
  have m14:=khd x15 (fun r hr=>kn _ r (tx15 r hr)) (Nat.le_trans lx15 (by decide)) (k+1+1+1+1+1+1+1+1+1+1+1+2 * (x12.length:Int)+1+1 * (x14.length:Int)) ga14 gb14
  have m15:=khd x16 (fun r hr=>kn _ r (tx16 r hr)) (Nat.le_trans lx16 (by decide)) (k+1+1+1+1+1+1+1+1+1+1+1+2 * (x12.length:Int)+1+1 * (x14.length:Int)+1 * (x15.length:Int)) ga15 gb15
  have m16:=kue x17 tx17 sx17.2 (Nat.le_trans lx17 (by decide)) (k+1+1+1+1+1+1+1+1+1+1+1+2 * (x12.length:Int)+1+1 * (x14.length:Int)+1 * (x15.length:Int)+1 * (x16.length:Int)) ga16 gb16
  have m25:=krc x26 (fun r hr=>kn _ r (tx26 r hr)) (Nat.le_trans lx26 (by decide)) (k+1+1+1+1+1+1+1+1+1+1+1+2 * (x12.length:Int)+1+1 * (x14.length:Int)+1 * (x15.length:Int)+1 * (x16.length:Int)+kc x17+1+1+1+1+1+1+1+1) ga25 gb25
  have m26:=kai x27 (fun r hr=>kn _ r (tx27 r hr)) (Nat.le_trans lx27 (by decide)) (k+1+1+1+1+1+1+1+1+1+1+1+2 * (x12.length:Int)+1+1 * (x14.length:Int)+1 * (x15.length:Int)+1 * (x16.length:Int)+kc x17+1+1+1+1+1+1+1+1+2 * (x26.length:Int)) ga26 gb26
  have m27:=kug x28 (fun r hr=>kn _ r (tx28 r hr)) (Nat.le_trans lx28 (by decide)) (k+1+1+1+1+1+1+1+1+1+1+1+2 * (x12.length:Int)+1+1 * (x14.length:Int)+1 * (x15.length:Int)+1 * (x16.length:Int)+kc x17+1+1+1+1+1+1+1+1+2 * (x26.length:Int)+5 * (x27.length:Int)) ga27 gb27
  have f11:fstSz 2 x12=true:=kic (fun r hr=>kn _ r (tx12 r hr))
  have o11:∀z (y:Rw),okR zr42 zo42 (some ([.one (.i .i64 z)],[[.l y]]))=true:=fun _ _=>rfl
  have v11:∀z (y:Rw),asL (outC (some ([.one (.i .i64 z)],[[.l y]])) 0 0)=y:=fun _ _=>rfl
  have i11:∀z (y:Rw),asI (resC (some ([.one (.i .i64 z)],[[.l y]])) 0 0)=z:=fun _ _=>rfl
  have d11:∀c1 c2 c3 c4 c5 c6 c7 c8 c9 c10 c11 c13 c14 c15 c16 c17 c18 c19 c20 c21 c22 c23 c24 c25 c26 c27 c28 c29 c30:D,asL (nthD [c1,c2,c3,c4,c5,c6,c7,c8,c9,c10,c11,.l x12,c13,c14,c15,c16,c17,c18,c19,c20,c21,c22,c23,c24,c25,c26,c27,c28,c29,c30] 11)=x12:=fun _ _ _ _ _ _ _ _ _ _ _ _ _ _ _ _ _ _ _ _ _ _ _ _ _ _ _ _ _=>rfl
  have h11:∀c1 c2 c3 c4 c5 c6 c7 c8 c9 c10 c11 c13 c14 c15 c16 c17 c18 c19 c20 c21 c22 c23 c24 c25 c26 c27 c28 c29 c30:D,decide (12≤([c1,c2,c3,c4,c5,c6,c7,c8,c9,c10,c11,.l x12,c13,c14,c15,c16,c17,c18,c19,c20,c21,c22,c23,c24,c25,c26,c27,c28,c29,c30]:List D).length)=true:=fun _ _ _ _ _ _ _ _ _ _ _ _ _ _ _ _ _ _ _ _ _ _ _ _ _ _ _ _ _=>rfl
  have k11:∀c1 c2 c3 c4 c5 c6 c7 c8 c9 c10 c11 c13 c14 c15 c16 c17 c18 c19 c20 c21 c22 c23 c24 c25 c26 c27 c28 c29 c30:D,isF [.l []] 11 [c1,c2,c3,c4,c5,c6,c7,c8,c9,c10,c11,.l x12,c13,c14,c15,c16,c17,c18,c19,c20,c21,c22,c23,c24,c25,c26,c27,c28,c29,c30]=true:=fun _ _ _ _ _ _ _ _ _ _ _ _ _ _ _ _ _ _ _ _ _ _ _ _ _ _ _ _ _=>rfl
  have f13:fstSz 1 x14=true:=kic (fun r hr=>kn _ r (tx14 r hr))
  have o13:∀z (y:Rw),okR zr65 zo65 (some ([.one (.i .i64 z)],[[.l y]]))=true:=fun _ _=>rfl
  have v13:∀z (y:Rw),asL (outC (some ([.one (.i .i64 z)],[[.l y]])) 0 0)=y:=fun _ _=>rfl
  have i13:∀z (y:Rw),asI (resC (some ([.one (.i .i64 z)],[[.l y]])) 0 0)=z:=fun _ _=>rfl
  have d13:∀c1 c2 c3 c4 c5 c6 c7 c8 c9 c10 c11 c12 c13 c15 c16 c17 c18 c19 c20 c21 c22 c23 c24 c25 c26 c27 c28 c29 c30:D,asL (nthD [c1,c2,c3,c4,c5,c6,c7,c8,c9,c10,c11,c12,c13,.l x14,c15,c16,c17,c18,c19,c20,c21,c22,c23,c24,c25,c26,c27,c28,c29,c30] 13)=x14:=fun _ _ _ _ _ _ _ _ _ _ _ _ _ _ _ _ _ _ _ _ _ _ _ _ _ _ _ _ _=>rfl
  have h13:∀c1 c2 c3 c4 c5 c6 c7 c8 c9 c10 c11 c12 c13 c15 c16 c17 c18 c19 c20 c21 c22 c23 c24 c25 c26 c27 c28 c29 c30:D,decide (14≤([c1,c2,c3,c4,c5,c6,c7,c8,c9,c10,c11,c12,c13,.l x14,c15,c16,c17,c18,c19,c20,c21,c22,c23,c24,c25,c26,c27,c28,c29,c30]:List D).length)=true:=fun _ _ _ _ _ _ _ _ _ _ _ _ _ _ _ _ _ _ _ _ _ _ _ _ _ _ _ _ _=>rfl
  have k13:∀c1 c2 c3 c4 c5 c6 c7 c8 c9 c10 c11 c12 c13 c15 c16 c17 c18 c19 c20 c21 c22 c23 c24 c25 c26 c27 c28 c29 c30:D,isF [.l []] 13 [c1,c2,c3,c4,c5,c6,c7,c8,c9,c10,c11,c12,c13,.l x14,c15,c16,c17,c18,c19,c20,c21,c22,c23,c24,c25,c26,c27,c28,c29,c30]=true:=fun _ _ _ _ _ _ _ _ _ _ _ _ _ _ _ _ _ _ _ _ _ _ _ _ _ _ _ _ _=>rfl
  have f14:fstSz 1 x15=true:=kic (fun r hr=>kn _ r (tx15 r hr))
  have o14:∀z (y:Rw),okR zr65 zo65 (some ([.one (.i .i64 z)],[[.l y]]))=true:=fun _ _=>rfl
  have v14:∀z (y:Rw),asL (outC (some ([.one (.i .i64 z)],[[.l y]])) 0 0)=y:=fun _ _=>rfl
  have i14:∀z (y:Rw),asI (resC (some ([.one (.i .i64 z)],[[.l y]])) 0 0)=z:=fun _ _=>rfl
  have d14:∀c1 c2 c3 c4 c5 c6 c7 c8 c9 c10 c11 c12 c13 c14 c16 c17 c18 c19 c20 c21 c22 c23 c24 c25 c26 c27 c28 c29 c30:D,asL (nthD [c1,c2,c3,c4,c5,c6,c7,c8,c9,c10,c11,c12,c13,c14,.l x15,c16,c17,c18,c19,c20,c21,c22,c23,c24,c25,c26,c27,c28,c29,c30] 14)=x15:=fun _ _ _ _ _ _ _ _ _ _ _ _ _ _ _ _ _ _ _ _ _ _ _ _ _ _ _ _ _=>rfl
  have h14:∀c1 c2 c3 c4 c5 c6 c7 c8 c9 c10 c11 c12 c13 c14 c16 c17 c18 c19 c20 c21 c22 c23 c24 c25 c26 c27 c28 c29 c30:D,decide (15≤([c1,c2,c3,c4,c5,c6,c7,c8,c9,c10,c11,c12,c13,c14,.l x15,c16,c17,c18,c19,c20,c21,c22,c23,c24,c25,c26,c27,c28,c29,c30]:List D).length)=true:=fun _ _ _ _ _ _ _ _ _ _ _ _ _ _ _ _ _ _ _ _ _ _ _ _ _ _ _ _ _=>rfl
  have k14:∀c1 c2 c3 c4 c5 c6 c7 c8 c9 c10 c11 c12 c13 c14 c16 c17 c18 c19 c20 c21 c22 c23 c24 c25 c26 c27 c28 c29 c30:D,isF [.l []] 14 [c1,c2,c3,c4,c5,c6,c7,c8,c9,c10,c11,c12,c13,c14,.l x15,c16,c17,c18,c19,c20,c21,c22,c23,c24,c25,c26,c27,c28,c29,c30]=true:=fun _ _ _ _ _ _ _ _ _ _ _ _ _ _ _ _ _ _ _ _ _ _ _ _ _ _ _ _ _=>rfl
  have f15:fstSz 1 x16=true:=kic (fun r hr=>kn _ r (tx16 r hr))
  have o15:∀z (y:Rw),okR zr65 zo65 (some ([.one (.i .i64 z)],[[.l y]]))=true:=fun _ _=>rfl
  have v15:∀z (y:Rw),asL (outC (some ([.one (.i .i64 z)],[[.l y]])) 0 0)=y:=fun _ _=>rfl
  have i15:∀z (y:Rw),asI (resC (some ([.one (.i .i64 z)],[[.l y]])) 0 0)=z:=fun _ _=>rfl
  have d15:∀c1 c2 c3 c4 c5 c6 c7 c8 c9 c10 c11 c12 c13 c14 c15 c17 c18 c19 c20 c21 c22 c23 c24 c25 c26 c27 c28 c29 c30:D,asL (nthD [c1,c2,c3,c4,c5,c6,c7,c8,c9,c10,c11,c12,c13,c14,c15,.l x16,c17,c18,c19,c20,c21,c22,c23,c24,c25,c26,c27,c28,c29,c30] 15)=x16:=fun _ _ _ _ _ _ _ _ _ _ _ _ _ _ _ _ _ _ _ _ _ _ _ _ _ _ _ _ _=>rfl
  have h15:∀c1 c2 c3 c4 c5 c6 c7 c8 c9 c10 c11 c12 c13 c14 c15 c17 c18 c19 c20 c21 c22 c23 c24 c25 c26 c27 c28 c29 c30:D,decide (16≤([c1,c2,c3,c4,c5,c6,c7,c8,c9,c10,c11,c12,c13,c14,c15,.l x16,c17,c18,c19,c20,c21,c22,c23,c24,c25,c26,c27,c28,c29,c30]:List D).length)=true:=fun _ _ _ _ _ _ _ _ _ _ _ _ _ _ _ _ _ _ _ _ _ _ _ _ _ _ _ _ _=>rfl
  have k15:∀c1 c2 c3 c4 c5 c6 c7 c8 c9 c10 c11 c12 c13 c14 c15 c17 c18 c19 c20 c21 c22 c23 c24 c25 c26 c27 c28 c29 c30:D,isF [.l []] 15 [c1,c2,c3,c4,c5,c6,c7,c8,c9,c10,c11,c12,c13,c14,c15,.l x16,c17,c18,c19,c20,c21,c22,c23,c24,c25,c26,c27,c28,c29,c30]=true:=fun _ _ _ _ _ _ _ _ _ _ _ _ _ _ _ _ _ _ _ _ _ _ _ _ _ _ _ _ _=>rfl
  have f16:fstSz 5 x17=true:=kic (fun r hr=>kn _ r (tx17 r hr))
  have o16:∀z (y:Rw),okR zr27 zo27 (some ([.one (.i .i64 z)],[[.l y]]))=true:=fun _ _=>rfl
  have v16:∀z (y:Rw),asL (outC (some ([.one (.i .i64 z)],[[.l y]])) 0 0)=y:=fun _ _=>rfl
  have i16:∀z (y:Rw),asI (resC (some ([.one (.i .i64 z)],[[.l y]])) 0 0)=z:=fun _ _=>rfl
  have d16:∀c1 c2 c3 c4 c5 c6 c7 c8 c9 c10 c11 c12 c13 c14 c15 c16 c18 c19 c20 c21 c22 c23 c24 c25 c26 c27 c28 c29 c30:D,asL (nthD [c1,c2,c3,c4,c5,c6,c7,c8,c9,c10,c11,c12,c13,c14,c15,c16,.l x17,c18,c19,c20,c21,c22,c23,c24,c25,c26,c27,c28,c29,c30] 16)=x17:=fun _ _ _ _ _ _ _ _ _ _ _ _ _ _ _ _ _ _ _ _ _ _ _ _ _ _ _ _ _=>rfl
  have h16:∀c1 c2 c3 c4 c5 c6 c7 c8 c9 c10 c11 c12 c13 c14 c15 c16 c18 c19 c20 c21 c22 c23 c24 c25 c26 c27 c28 c29 c30:D,decide (17≤([c1,c2,c3,c4,c5,c6,c7,c8,c9,c10,c11,c12,c13,c14,c15,c16,.l x17,c18,c19,c20,c21,c22,c23,c24,c25,c26,c27,c28,c29,c30]:List D).length)=true:=fun _ _ _ _ _ _ _ _ _ _ _ _ _ _ _ _ _ _ _ _ _ _ _ _ _ _ _ _ _=>rfl
  have k16:∀c1 c2 c3 c4 c5 c6 c7 c8 c9 c10 c11 c12 c13 c14 c15 c16 c18 c19 c20 c21 c22 c23 c24 c25 c26 c27 c28 c29 c30:D,isF [.l []] 16 [c1,c2,c3,c4,c5,c6,c7,c8,c9,c10,c11,c12,c13,c14,c15,c16,.l x17,c18,c19,c20,c21,c22,c23,c24,c25,c26,c27,c28,c29,c30]=true:=fun _ _ _ _ _ _ _ _ _ _ _ _ _ _ _ _ _ _ _ _ _ _ _ _ _ _ _ _ _=>rfl
  have f25:fstSz 2 x26=true:=kic (fun r hr=>kn _ r (tx26 r hr))
  have o25:∀z (y:Rw),okR zr42 zo42 (some ([.one (.i .i64 z)],[[.l y]]))=true:=fun _ _=>rfl
  have v25:∀z (y:Rw),asL (outC (some ([.one (.i .i64 z)],[[.l y]])) 0 0)=y:=fun _ _=>rfl
  have i25:∀z (y:Rw),asI (resC (some ([.one (.i .i64 z)],[[.l y]])) 0 0)=z:=fun _ _=>rfl
  have d25:∀c1 c2 c3 c4 c5 c6 c7 c8 c9 c10 c11 c12 c13 c14 c15 c16 c17 c18 c19 c20 c21 c22 c23 c24 c25 c27 c28 c29 c30:D,asL (nthD [c1,c2,c3,c4,c5,c6,c7,c8,c9,c10,c11,c12,c13,c14,c15,c16,c17,c18,c19,c20,c21,c22,c23,c24,c25,.l x26,c27,c28,c29,c30] 25)=x26:=fun _ _ _ _ _ _ _ _ _ _ _ _ _ _ _ _ _ _ _ _ _ _ _ _ _ _ _ _ _=>rfl
  have h25:∀c1 c2 c3 c4 c5 c6 c7 c8 c9 c10 c11 c12 c13 c14 c15 c16 c17 c18 c19 c20 c21 c22 c23 c24 c25 c27 c28 c29 c30:D,decide (26≤([c1,c2,c3,c4,c5,c6,c7,c8,c9,c10,c11,c12,c13,c14,c15,c16,c17,c18,c19,c20,c21,c22,c23,c24,c25,.l x26,c27,c28,c29,c30]:List D).length)=true:=fun _ _ _ _ _ _ _ _ _ _ _ _ _ _ _ _ _ _ _ _ _ _ _ _ _ _ _ _ _=>rfl
  have k25:∀c1 c2 c3 c4 c5 c6 c7 c8 c9 c10 c11 c12 c13 c14 c15 c16 c17 c18 c19 c20 c21 c22 c23 c24 c25 c27 c28 c29 c30:D,isF [.l []] 25 [c1,c2,c3,c4,c5,c6,c7,c8,c9,c10,c11,c12,c13,c14,c15,c16,c17,c18,c19,c20,c21,c22,c23,c24,c25,.l x26,c27,c28,c29,c30]=true:=fun _ _ _ _ _ _ _ _ _ _ _ _ _ _ _ _ _ _ _ _ _ _ _ _ _ _ _ _ _=>rfl
  have f26:fstSz 5 x27=true:=kic (fun r hr=>kn _ r (tx27 r hr))
  have o26:∀z (y:Rw),okR zr70 zo70 (some ([.one (.i .i64 z)],[[.l y]]))=true:=fun _ _=>rfl
  have v26:∀z (y:Rw),asL (outC (some ([.one (.i .i64 z)],[[.l y]])) 0 0)=y:=fun _ _=>rfl
  have i26:∀z (y:Rw),asI (resC (some ([.one (.i .i64 z)],[[.l y]])) 0 0)=z:=fun _ _=>rfl
  have d26:∀c1 c2 c3 c4 c5 c6 c7 c8 c9 c10 c11 c12 c13 c14 c15 c16 c17 c18 c19 c20 c21 c22 c23 c24 c25 c26 c28 c29 c30:D,asL (nthD [c1,c2,c3,c4,c5,c6,c7,c8,c9,c10,c11,c12,c13,c14,c15,c16,c17,c18,c19,c20,c21,c22,c23,c24,c25,c26,.l x27,c28,c29,c30] 26)=x27:=fun _ _ _ _ _ _ _ _ _ _ _ _ _ _ _ _ _ _ _ _ _ _ _ _ _ _ _ _ _=>rfl
  have h26:∀c1 c2 c3 c4 c5 c6 c7 c8 c9 c10 c11 c12 c13 c14 c15 c16 c17 c18 c19 c20 c21 c22 c23 c24 c25 c26 c28 c29 c30:D,decide (27≤([c1,c2,c3,c4,c5,c6,c7,c8,c9,c10,c11,c12,c13,c14,c15,c16,c17,c18,c19,c20,c21,c22,c23,c24,c25,c26,.l x27,c28,c29,c30]:List D).length)=true:=fun _ _ _ _ _ _ _ _ _ _ _ _ _ _ _ _ _ _ _ _ _ _ _ _ _ _ _ _ _=>rfl
  have k26:∀c1 c2 c3 c4 c5 c6 c7 c8 c9 c10 c11 c12 c13 c14 c15 c16 c17 c18 c19 c20 c21 c22 c23 c24 c25 c26 c28 c29 c30:D,isF [.l []] 26 [c1,c2,c3,c4,c5,c6,c7,c8,c9,c10,c11,c12,c13,c14,c15,c16,c17,c18,c19,c20,c21,c22,c23,c24,c25,c26,.l x27,c28,c29,c30]=true:=fun _ _ _ _ _ _ _ _ _ _ _ _ _ _ _ _ _ _ _ _ _ _ _ _ _ _ _ _ _=>rfl
  have f27:fstSz 9 x28=true:=kic (fun r hr=>kn _ r (tx28 r hr))
  have o27:∀z (y:Rw),okR zr29 zo29 (some ([.one (.i .i64 z)],[[.l y]]))=true:=fun _ _=>rfl
  have v27:∀z (y:Rw),asL (outC (some ([.one (.i .i64 z)],[[.l y]])) 0 0)=y:=fun _ _=>rfl
  have i27:∀z (y:Rw),asI (resC (some ([.one (.i .i64 z)],[[.l y]])) 0 0)=z:=fun _ _=>rfl
  have d27:∀c1 c2 c3 c4 c5 c6 c7 c8 c9 c10 c11 c12 c13 c14 c15 c16 c17 c18 c19 c20 c21 c22 c23 c24 c25 c26 c27 c29 c30:D,asL (nthD [c1,c2,c3,c4,c5,c6,c7,c8,c9,c10,c11,c12,c13,c14,c15,c16,c17,c18,c19,c20,c21,c22,c23,c24,c25,c26,c27,.l x28,c29,c30] 27)=x28:=fun _ _ _ _ _ _ _ _ _ _ _ _ _ _ _ _ _ _ _ _ _ _ _ _ _ _ _ _ _=>rfl
  have h27:∀c1 c2 c3 c4 c5 c6 c7 c8 c9 c10 c11 c12 c13 c14 c15 c16 c17 c18 c19 c20 c21 c22 c23 c24 c25 c26 c27 c29 c30:D,decide (28≤([c1,c2,c3,c4,c5,c6,c7,c8,c9,c10,c11,c12,c13,c14,c15,c16,c17,c18,c19,c20,c21,c22,c23,c24,c25,c26,c27,.l x28,c29,c30]:List D).length)=true:=fun _ _ _ _ _ _ _ _ _ _ _ _ _ _ _ _ _ _ _ _ _ _ _ _ _ _ _ _ _=>rfl
  have k27:∀c1 c2 c3 c4 c5 c6 c7 c8 c9 c10 c11 c12 c13 c14 c15 c16 c17 c18 c19 c20 c21 c22 c23 c24 c25 c26 c27 c29 c30:D,isF [.l []] 27 [c1,c2,c3,c4,c5,c6,c7,c8,c9,c10,c11,c12,c13,c14,c15,c16,c17,c18,c19,c20,c21,c22,c23,c24,c25,c26,c27,.l x28,c29,c30]=true:=fun _ _ _ _ _ _ _ _ _ _ _ _ _ _ _ _ _ _ _ _ _ _ _ _ _ _ _ _ _=>rfl
  have:=fun (z0:SV)=>ih (a++[kh k [.i .i64 x1,.i .i64 x2,.b x3,.i .i64 x4,.i .i64 x5,.i .i64 x6,.i .i64 x7,.i .i64 x8,.i .i64 x9,.i .i64 x10,.i .i64 x11,.l x12,.i .i64 x13,.l x14,.l x15,.l x16,.l x17,.i .i64 x18,.i .i64 x19,.s x20,.i .i64 x21,.i .i64 x22,.i .i64 x23,.i .i64 x24,.s x25,.l x26,.l x27,.l x28,.i .i64 x29,.i .i64 x30]]) m (k+1+1+1+1+1+1+1+1+1+1+1+2 * (x12.length:Int)+1+1 * (x14.length:Int)+1 * (x15.length:Int)+1 * (x16.length:Int)+kc x17+1+1+1+1+1+1+1+1+2 * (x26.length:Int)+5 * (x27.length:Int)+9 * (x28.length:Int)+1+1) z0 hb hb2 hmb (hlb _) gf hk
  simp only [la39o0,e1,e0,eg,if_true,itn,p0,p1,p2,p3,p4,p5,p6,p7,p8,p9,p10,p12,p17,p18,p19,p20,p21,p22,p23,p24,p28,p29,u0,u1,u2,u3,u4,u5,u6,u7,u8,u9,u10,u12,u17,u18,u19,u20,u21,u22,u23,u24,u28,u29,t19,ta19,t24,ta24,kx,kw,kil a b _ rfl,kul a b _ rfl,krl a b _ rfl,kam a b _ rfl,kkl a b _ rfl,kxl a b _ rfl,kol a b _ rfl,kvl a b _ rfl,kyl a b _ rfl,kll a b _ rfl,kmk a b _ rfl,kal a b _ rfl,kwk a b _ rfl,kdl a b _ rfl,ktk a b _ rfl,kkk a b _ rfl,kok a b _ rfl,kuk a b _ rfl,kbl a b _ rfl,kgl a b _ rfl,kpk a b _ rfl,ksk a b _ rfl,khl a b _ rfl,kvk a b _ rfl,kjk a b _ rfl,kxk a b _ rfl,knk a b _ rfl,klk a b _ rfl,kqk a b _ rfl,krk a b _ rfl,m11,f11,o11,v11,i11,d11,h11,k11,m13,f13,o13,v13,i13,d13,h13,k13,m14,f14,o14,v14,i14,d14,h14,k14,m15,f15,o15,v15,i15,d15,h15,k15,m16,f16,o16,v16,i16,d16,h16,k16,m25,f25,o25,v25,i25,d25,h25,k25,m26,f26,o26,v26,i26,d26,h26,k26,m27,f27,o27,v27,i27,d27,h27,k27,bat,ka,hw]
  have e3:(a++[kh k [.i .i64 x1,.i .i64 x2,.b x3,.i .i64 x4,.i .i64 x5,.i .i64 x6,.i .i64 x7,.i .i64 x8,.i .i64 x9,.i .i64 x10,.i .i64 x11,.l x12,.i .i64 x13,.l x14,.l x15,.l x16,.l x17,.i .i64 x18,.i .i64 x19,.s x20,.i .i64 x21,.i .i64 x22,.i .i64 x23,.i .i64 x24,.s x25,.l x26,.l x27,.l x28,.i .i64 x29,.i .i64 x30]]).length=a.length+1:=by simp
  simp only [e3,List.append_assoc] at this
  have e5:a++kab k ([.i .i64 x1,.i .i64 x2,.b x3,.i .i64 x4,.i .i64 x5,.i .i64 x6,.i .i64 x7,.i .i64 x8,.i .i64 x9,.i .i64 x10,.i .i64 x11,.l x12,.i .i64 x13,.l x14,.l x15,.l x16,.l x17,.i .i64 x18,.i .i64 x19,.s x20,.i .i64 x21,.i .i64 x22,.i .i64 x23,.i .i64 x24,.s x25,.l x26,.l x27,.l x28,.i .i64 x29,.i .i64 x30] :: b)=(a++[kh k [.i .i64 x1,.i .i64 x2,.b x3,.i .i64 x4,.i .i64 x5,.i .i64 x6,.i .i64 x7,.i .i64 x8,.i .i64 x9,.i .i64 x10,.i .i64 x11,.l x12,.i .i64 x13,.l x14,.l x15,.l x16,.l x17,.i .i64 x18,.i .i64 x19,.s x20,.i .i64 x21,.i .i64 x22,.i .i64 x23,.i .i64 x24,.s x25,.l x26,.l x27,.l x28,.i .i64 x29,.i .i64 x30]])++kab (k+1+1+1+1+1+1+1+1+1+1+1+2 * (x12.length:Int)+1+1 * (x14.length:Int)+1 * (x15.length:Int)+1 * (x16.length:Int)+kc x17+1+1+1+1+1+1+1+1+2 * (x26.length:Int)+5 * (x27.length:Int)+9 * (x28.length:Int)+1+1) b:=by rw [kab,e6,List.append_assoc];rfl
  rw [e7,e5,List.append_assoc]
  exact this _
end Go.Den.L4
