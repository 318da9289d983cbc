/- The evaluator of Go code over plain data, and its soundness: part 9 of 9. -/
import Derived.Test.YtbmgnecedmcneaaGreatDm8
set_option linter.unusedVariables false
set_option linter.unusedSimpArgs false
/- The evaluator once more, with what follows behind it: loops and pieces are told by what they come to. -/
namespace Go.Den
open Go
section
variable {β:Type} (C:Ctx)
def jyb (ops:Array Oper):List Oper→St→(St→Option β)→Option β
 | [],st,K=>K { st with l:=[] }
 | o :: os,st,K=>match guardOf ops st o.guard with
  | some (p,c)=>(match light C st p o.op with
   | some (ok,v)=>if okP p c ok then jyb ops os (pt C st p c o.dst v) K else none
   | none=>(match p with
    | []=>(match heavy C st (o.dst.getD 0) o.op with
     | some (ok,v,st1)=>if ok then jyb ops os (pt C st1 [] true o.dst v) K else none
     | none=>none)
    | q :: p=>if c then (match heavy C (atP (q :: p) st) (o.dst.getD 0) o.op with
     | some (ok,v,st1)=>if ok then jyb ops os (pt C st1 [] true o.dst v) K else none
     | none=>none) else jyb ops os (pt C st (q :: p) false o.dst .undef) K))
  | none=>none
def juc (ops:Array Oper):List Oper→St→(St→Option β)→Option β
 | [],st,K=>K st
 | o :: os,st,K=>match guardOf ops st o.guard with
  | some (p,c)=>(match light C st p o.op with
   | some (ok,v)=>if okP p c ok then juc ops os (pt C st p c o.dst v) K else none
   | none=>(match p with
    | []=>(match heavy C st (o.dst.getD 0) o.op with
     | some (ok,v,st1)=>if ok then juc ops os (pt C st1 [] true o.dst v) K else none
     | none=>none)
    | q :: p=>if c then (match heavy C (atP (q :: p) st) (o.dst.getD 0) o.op with
     | some (ok,v,st1)=>if ok then juc ops os (pt C st1 [] true o.dst v) K else none
     | none=>none) else juc ops os (pt C st (q :: p) false o.dst .undef) K))
  | none=>none
def jcp (ops:Array Oper) (st:St) (K:St→Option β):Option β :=
 match jki C.sig ops.toList with
 | none=>jyb C ops ops.toList st K
 | some (pre,o1,o2,o3,post)=>juc C ops pre st fun st1=>if jys C st1 o1 then (match jyo C st1 o1 o2 o3 with
  | some (ok,st2)=>if ok then jyb C ops post st2 K else none
  | none=>none) else jyb C ops (o1 :: o2 :: o3 :: post) st1 K
def stepK (ops:Array Oper) (o:Oper) (k:Nat) (st:St) (K:St→Option β):Option β :=
 match guardOf ops st o.guard with
 | some (p,c)=>(match k with
  | 0=>(match light C st p o.op with
   | some (ok,v)=>if okP p c ok then K (pt C st p c o.dst v) else none
   | none=>(match p with | []=>none | q :: p=>if c then none else K (pt C st (q :: p) false o.dst .undef)))
  | _=>(match p with
   | []=>(match light C st [] o.op with
    | some (ok,v)=>if ok then K (pt C st [] true o.dst v) else none
    | none=>(match heavy C st (o.dst.getD 0) o.op with
     | some (ok,v,st1)=>if ok then K (pt C st1 [] true o.dst v) else none
     | none=>none))
   | q :: p=>if c then (match heavy C (atP (q :: p) st) (o.dst.getD 0) o.op with
    | some (ok,v,st1)=>if ok then K (pt C ⟨st1.m,zipL st.l st1.l,st1.h⟩ (q :: p) true o.dst v) else none
    | none=>none) else K (pt C st (q :: p) false o.dst .undef)))
 | none=>none
def jwi (ops:Array Oper):List (Nat × Nat × List Nat)→St→(St→Option β)→Option β
 | [],st,K=>K { st with l:=[] }
 | (i,k,js) :: r,st,K=>match ops[i]? with
  | some o=>if jjf C ops st (jtg hits C ops st o) (jtg hitsB C ops st o) js then stepK C ops o k st (fun st1=>jwi ops r st1 K) else none
  | none=>none
def nn:Code→Nat
 | .seq a b=>nn a+nn b
 | .cond _ a b=>nn a+nn b+1
 | .block _ a=>nn a
 | .loop a=>nn a+1
 | _=>0
def nodeAt:Code→Nat→Option Code
 | .seq a b,j=>if j < nn a then nodeAt a j else nodeAt b (j - nn a)
 | .cond c a b,j=>if j=0 then some (.cond c a b) else if j - 1 < nn a then nodeAt a (j - 1) else nodeAt b (j - 1 - nn a)
 | .block _ a,j=>nodeAt a j
 | .loop a,j=>if j=0 then some (.loop a) else nodeAt a (j - 1)
 | _,_=>none
abbrev Cont (β:Type):=Ex→St→Option β
def seqK (K:Cont β) (b:St→Option β):Cont β:=fun e st=>match e with | .normal=>b st | .exit j=>K (.exit j) st | .ret=>K .ret st
def jby (id:Nat) (K:Cont β):Cont β:=fun e st=>match e with | .normal=>K .normal st | .exit j=>if j=id then K .normal st else K (.exit j) st | .ret=>K .ret st
def denK (S:Nat→Option (St→Cont β→Option β)):Code→Nat→St→Cont β→Option β
 | .skip,_,st,K=>K .normal st
 | .region i ops d,_,st,K=>if d then jwi C ops (lkO C.ord i) st (fun x=>K .normal (endS C i x)) else jcp C ops st (fun x=>K .normal (endS C i x))
 | .seq a b,o,st,K=>denK S a o st (seqK K fun st1=>denK S b (o+nn a) st1 K)
 | .cond c a b,o,st,K=>(match S o with
  | some s=>s st K
  | none=>(match ev C st [] c with | .d (.b x)=>if x then denK S a (o+1) st K else denK S b (o+1+nn a) st K | _=>none))
 | .block id a,o,st,K=>denK S a o st (jby id K)
 | .loop _,o,st,K=>(match S o with | some s=>s st K | none=>none)
 | .exit id,_,st,K=>K (.exit id) st
 | .ret,_,st,K=>K .ret st
 | _,_,_,_=>none

def Le (x y:Option β):Prop:=∀r,x=some r→y=some r
theorem Le.refl (x:Option β):Le x x:=fun _ h=>h
theorem Le.trans {x y z:Option β} (A:Le x y) (B:Le y z):Le x z:=fun r h=>B r (A r h)
theorem Le.none (y:Option β):Le none y:=fun r h=>by cases h
theorem Le.bind {α:Type} {o:Option α} {f g:α→Option β} (h:∀a,Le (f a) (g a)):Le (o.bind f) (o.bind g):=fun r hr=>by
 cases o with
 | none=>cases hr
 | some a=>exact h a r hr
variable {C}
theorem jie {ops:Array Oper} {K:St→Option β}:∀{os:List Oper} {st:St},jyb C ops os st K=(runOps C ops os st).bind K
 | [],st=>rfl
 | o :: os,st=>by
  have ih:∀{ok:Bool} {x:St},(if ok=true then jyb C ops os x K else none)=(if ok=true then runOps C ops os x else none).bind K:=fun {ok x}=>by
   cases ok with
   | true=>exact jie
   | false=>rfl
  have hv:∀{y:Option (Bool × SV × St)},(match y with | some (ok,v,st1)=>if ok=true then jyb C ops os (pt C st1 [] true o.dst v) K else none | none=>none) =
    (match y with | some (ok,v,st1)=>if ok=true then runOps C ops os (pt C st1 [] true o.dst v) else none | none=>none).bind K:=fun {y}=>by
   cases y with
   | none=>rfl
   | some q=>obtain ⟨ok,v,st1⟩:=q;exact ih
  simp only [jyb,runOps]
  cases guardOf ops st o.guard with
  | none=>rfl
  | some pc =>
   obtain ⟨p,c⟩:=pc
   dsimp only
   cases light C st p o.op with
   | some q=>obtain ⟨ok,v⟩:=q;exact ih
   | none =>
    dsimp only
    cases p with
    | nil=>exact hv
    | cons q p =>
     dsimp only
     cases c with
     | true=>exact hv
     | false=>exact jie
theorem jpi {ops:Array Oper} {K:St→Option β}:∀{os:List Oper} {st:St},juc C ops os st K=(jqb C ops os st).bind K
 | [],st=>rfl
 | o :: os,st=>by
  have ih:∀{ok:Bool} {x:St},(if ok=true then juc C ops os x K else none)=(if ok=true then jqb C ops os x else none).bind K:=fun {ok x}=>by
   cases ok with
   | true=>exact jpi
   | false=>rfl
  have hv:∀{y:Option (Bool × SV × St)},(match y with | some (ok,v,st1)=>if ok=true then juc C ops os (pt C st1 [] true o.dst v) K else none | none=>none) =
    (match y with | some (ok,v,st1)=>if ok=true then jqb C ops os (pt C st1 [] true o.dst v) else none | none=>none).bind K:=fun {y}=>by
   cases y with
   | none=>rfl
   | some q=>obtain ⟨ok,v,st1⟩:=q;exact ih
  simp only [juc,jqb]
  cases guardOf ops st o.guard with
  | none=>rfl
  | some pc =>
   obtain ⟨p,c⟩:=pc
   dsimp only
   cases light C st p o.op with
   | some q=>obtain ⟨ok,v⟩:=q;exact ih
   | none =>
    dsimp only
    cases p with
    | nil=>exact hv
    | cons q p =>
     dsimp only
     cases c with
     | true=>exact hv
     | false=>exact jpi
theorem jdv {ops:Array Oper} {st:St} {K:St→Option β}:jcp C ops st K=(jvg C ops st).bind K:=by
 unfold jcp jvg
 cases jki C.sig ops.toList with
 | none=>exact jie
 | some q =>
  obtain ⟨pre,o1,o2,o3,post⟩:=q
  dsimp only
  rw [jpi]
  cases jqb C ops pre st with
  | none=>rfl
  | some st1 =>
   simp only [Option.bind_some]
   cases jys C st1 o1 with
   | false=>simp only [Bool.false_eq_true,if_false];exact jie
   | true =>
    simp only [if_true]
    cases jyo C st1 o1 o2 o3 with
    | none=>rfl
    | some q =>
     obtain ⟨ok,st2⟩:=q
     cases ok with
     | true=>exact jie
     | false=>rfl
theorem jpz {ops:Array Oper} {o:Oper} {k:Nat} {st:St} {K:St→Option β}:stepK C ops o k st K=(stepD C ops o k st).bind K:=by
 have ih:∀{ok:Bool} {x:St},(if ok=true then K x else none)=(if ok=true then some x else none).bind K:=fun {ok x}=>by
  cases ok<;>rfl
 unfold stepK stepD
 cases guardOf ops st o.guard with
 | none=>rfl
 | some pc =>
  obtain ⟨p,c⟩:=pc
  dsimp only
  cases k with
  | zero =>
   cases light C st p o.op with
   | none=>cases p with
    | nil=>rfl
    | cons q p=>cases c<;>rfl
   | some q=>obtain ⟨ok,v⟩:=q;exact ih
  | succ k =>
   cases p with
   | cons q p =>
    dsimp only
    cases c with
    | false=>rfl
    | true =>
     simp only [if_true]
     cases heavy C (atP (q :: p) st) (o.dst.getD 0) o.op with
     | none=>rfl
     | some z=>obtain ⟨ok,v,st1⟩:=z;exact ih
   | nil =>
    dsimp only
    cases light C st [] o.op with
    | some q=>obtain ⟨ok,v⟩:=q;exact ih
    | none =>
     dsimp only
     cases heavy C st (o.dst.getD 0) o.op with
     | none=>rfl
     | some q=>obtain ⟨ok,v,st1⟩:=q;exact ih
theorem jjm {ops:Array Oper} {K:St→Option β}:∀{r:List (Nat × Nat × List Nat)} {st:St},jwi C ops r st K=(runDraw C ops r st).bind K
 | [],st=>rfl
 | (i,k,js) :: r,st=>by
  simp only [jwi,runDraw]
  cases ops[i]? with
  | none=>rfl
  | some o =>
   dsimp only
   by_cases hf:jjf C ops st (jtg hits C ops st o) (jtg hitsB C ops st o) js=true
   ·rw [if_pos hf,if_pos hf,jpz]
    cases stepD C ops o k st with
    | none=>rfl
    | some st1=>exact jjm
   ·rw [if_neg hf,if_neg hf];rfl
def SumOk (C:Ctx) (k:Nat) (s:St→Cont β→Option β) (c:Code):Prop:=∀st K,Le (s st K) ((den C k c st).bind fun r=>K r.1 r.2)
def jzc (C:Ctx) (k:Nat) (S:Nat→Option (St→Cont β→Option β)) (c:Code) (o:Nat):Prop:=∀j n s,nodeAt c j=some n→S (o+j)=some s→SumOk C k s n
theorem jzp:∀{c:Code} {j:Nat} {n:Code},nodeAt c j=some n→j < nn c:=by
 intro c
 induction c with
 | seq a b iha ihb =>
  intro j n h
  simp only [nodeAt] at h
  simp only [nn]
  split at h
  ·omega
  ·have:=ihb h;omega
 | cond x a b iha ihb =>
  intro j n h
  simp only [nodeAt] at h
  simp only [nn]
  split at h
  ·omega
  ·split at h
   ·omega
   ·have:=ihb h;omega
 | block i a ih=>intro j n h;exact ih h
 | loop a ih =>
  intro j n h
  simp only [nodeAt] at h
  simp only [nn]
  split at h
  ·omega
  ·have:=ih h;omega
 | _=>intro j n h;simp [nodeAt] at h
theorem jly {v:SV} {a b:Option β} {x y:Option (Ex × St)} {K:Ex × St→Option β} (h1:Le a (x.bind K)) (h2:Le b (y.bind K)):Le (match v with | .d (.b z)=>if z then a else b | _=>none) ((match v with | .d (.b z)=>if z then x else y | _=>none).bind K):=by
 cases v with
 | d d =>
  cases d with
  | b z=>cases z<;>assumption
  | _=>exact .none _
 | _=>exact .none _
theorem jxl {k:Nat} {S:Nat→Option (St→Cont β→Option β)}:∀(c:Code) (o:Nat) (st:St) (K:Cont β),jzc C k S c o→Le (denK C S c o st K) ((den C k c st).bind fun r=>K r.1 r.2):=by
 intro c
 induction c with
 | skip=>intro o st K _;exact .refl _
 | exit i=>intro o st K _;exact .refl _
 | ret=>intro o st K _;exact .refl _
 | region i ops d =>
  intro o st K _
  simp only [denK,den]
  split
  ·rw [jjm]
   cases runDraw C ops (lkO C.ord i) st<;>exact .refl _
  ·rw [jdv]
   cases jvg C ops st<;>exact .refl _
 | seq a b iha ihb =>
  intro o st K H
  have H1:jzc C k S a o:=fun j n s hn hs=>H j n s (by simp only [nodeAt,if_pos (jzp hn)];exact hn) hs
  have H2:jzc C k S b (o+nn a):=fun j n s hn hs=>H (nn a+j) n s (by simp only [nodeAt];rw [if_neg (by omega),Nat.add_sub_cancel_left];exact hn) (by rw [←Nat.add_assoc];exact hs)
  simp only [denK,den]
  refine (iha o st _ H1).trans ?_
  cases den C k a st with
  | none=>exact .none _
  | some r =>
   obtain ⟨e,st1⟩:=r
   cases e with
   | normal=>exact ihb _ st1 K H2
   | exit j=>exact .refl _
   | ret=>exact .refl _
 | cond x a b iha ihb =>
  intro o st K H
  have H1:jzc C k S a (o+1):=fun j n s hn hs=>H (1+j) n s (by
   simp only [nodeAt]
   have:=jzp hn
   rw [if_neg (by omega),Nat.add_sub_cancel_left,if_pos this];exact hn) (by rw [←Nat.add_assoc];exact hs)
  have H2:jzc C k S b (o+1+nn a):=fun j n s hn hs=>H (1+nn a+j) n s (by
   simp only [nodeAt]
   rw [if_neg (by omega),show 1+nn a+j - 1=nn a+j by omega,if_neg (by omega),Nat.add_sub_cancel_left];exact hn) (by rw [←Nat.add_assoc,←Nat.add_assoc];exact hs)
  simp only [denK]
  split
  ·rename_i s hs
   exact H 0 _ s (by simp [nodeAt]) hs st K
  ·simp only [den]
   exact jly (iha _ st K H1) (ihb _ st K H2)
 | block i a ih =>
  intro o st K H
  simp only [denK,den]
  refine (ih o st _ H).trans ?_
  cases den C k a st with
  | none=>exact .none _
  | some r =>
   obtain ⟨e,st1⟩:=r
   cases e with
   | normal=>exact .refl _
   | exit j =>
    simp only [jjb,Option.bind_some,jby]
    split<;>exact .refl _
   | ret=>exact .refl _
 | loop a ih =>
  intro o st K H
  simp only [denK]
  split
  ·rename_i s hs
   exact H 0 _ s (by simp [nodeAt]) hs st K
  ·exact .none _
 | _=>intro o st K _;exact .none _
theorem piece_ok {k o:Nat} {S:Nat→Option (St→Cont β→Option β)} {x:Operand} {a b:Code} {s:St→Cont β→Option β} (H1:jzc C k S a (o+1)) (H2:jzc C k S b (o+1+nn a))
  (h:∀st K,Le (s st K) (match ev C st [] x with | .d (.b y)=>if y then denK C S a (o+1) st K else denK C S b (o+1+nn a) st K | _=>none)):SumOk C k s (.cond x a b):=fun st K=>by
 refine (h st K).trans ?_
 simp only [den]
 exact jly (jxl _ _ _ _ H1) (jxl _ _ _ _ H2)
end

/-! ### states by their shape -/
inductive Vr where | b (x:Bool) | i (x:Int) | s (x:ByteArray) | l (x:List (List D)) | n (x:Nat) | v (x:SV)
def nthV:List Vr→Nat→Vr | [],_=>.b false | x :: _,0=>x | _ :: xs,n+1=>nthV xs n
def vB (vs:List Vr) (n:Nat):Bool:=match nthV vs n with | .b x=>x | _=>false
def vI (vs:List Vr) (n:Nat):Int:=match nthV vs n with | .i x=>x | _=>0
def vS (vs:List Vr) (n:Nat):ByteArray:=match nthV vs n with | .s x=>x | _=>⟨#[]⟩
def vL (vs:List Vr) (n:Nat):List (List D):=match nthV vs n with | .l x=>x | _=>[]
def vN (vs:List Vr) (n:Nat):Nat:=match nthV vs n with | .n x=>x | _=>0
def vV (vs:List Vr) (n:Nat):SV:=match nthV vs n with | .v x=>x | _=>.undef
inductive TD where | b | i (k:IntKind) | s | l
def chkT:TD→D→Bool | .b,.b _=>true | .i k,.i k' _=>decide (k=k') | .s,.s _=>true | .l,.l _=>true | _,_=>false
def extT:D→Vr | .b x=>.b x | .i _ x=>.i x | .s x=>.s x | .l x=>.l x
def jao:TD→Nat→List Vr→D | .b,n,vs=>.b (vB vs n) | .i k,n,vs=>.i k (vI vs n) | .s,n,vs=>.s (vS vs n) | .l,n,vs=>.l (vL vs n)
theorem jgj (pre:List Vr) (x:Vr) (post:List Vr):nthV (pre++x :: post) pre.length=x:=by
 induction pre with
 | nil=>rfl
 | cons y pre ih=>exact ih
theorem jcl {t:TD} {d:D} (h:chkT t d=true) (pre post:List Vr):jao t pre.length (pre++extT d :: post)=d:=by
 cases t<;>cases d<;>simp_all [chkT,jao,vB,vI,vS,vL,jgj,extT]
inductive TV where | d (t:TD) | nils | own (n:Nat) | ptr (n off:Nat) | nilp | rp (n off:Nat) | fn (f:Nat) | undef | any | pv (ts:List TD) (off:Nat) | fb (f:Nat) (ts:List TD) | bx (n j:Nat) (t:TD) | agg (ts:List TV)
def nTs:List TD→Nat | []=>0 | _ :: ts=>nTs ts+1
def jyf:List TD→List D→Bool | [],[]=>true | t :: ts,d :: ds=>chkT t d&&jyf ts ds | _,_=>false
def jag:List D→List Vr | []=>[] | d :: ds=>extT d :: jag ds
def jrg:List TD→Nat→List Vr→List D | [],_,_=>[] | t :: ts,n,vs=>jao t n vs :: jrg ts (n+1) vs
theorem jce:∀{ts:List TD} {ds:List D},jyf ts ds=true→(jag ds).length=nTs ts∧∀pre post,jrg ts pre.length (pre++(jag ds++post))=ds
 | [],[],_=>⟨rfl,fun _ _=>rfl⟩
 | [],_ :: _,h=>by simp [jyf] at h
 | _ :: _,[],h=>by simp [jyf] at h
 | t :: ts,d :: ds,h=>by
  simp only [jyf,Bool.and_eq_true] at h
  obtain ⟨h1,h2⟩:=jce h.2
  refine ⟨by simp [jag,nTs,h1],fun pre post=>?_⟩
  have:=h2 (pre++[extT d]) post
  simp only [List.length_append,List.length_cons,List.length_nil,List.append_assoc,List.cons_append,List.nil_append] at this
  simp only [jrg,jag,List.cons_append]
  rw [jcl h.1,this]
mutual
def nV:TV→Nat
 | .d _=>1 | .rp _ _=>1 | .any=>1 | .pv ts _=>nTs ts | .fb _ ts=>nTs ts | .bx _ _ _=>1 | .agg ts=>nVs ts | _=>0
def nVs:List TV→Nat | []=>0 | t :: ts=>nV t+nVs ts
end
mutual
def chkV:TV→SV→Bool
 | .d t,.d x=>chkT t x
 | .nils,.nils=>true
 | .own n,.own k=>decide (n=k)
 | .ptr n o,.ptr k q=>decide (n=k)&&decide (o=q)
 | .nilp,.nilp=>true
 | .rp n o,.rp k _ q=>decide (n=k)&&decide (o=q)
 | .fn f,.fn g=>decide (f=g)
 | .undef,.undef=>true
 | .any,_=>true
 | .pv ts o,.pv ds q=>jyf ts ds&&decide (o=q)
 | .fb f ts,.fb g ds=>jyf ts ds&&decide (f=g)
 | .bx n j t,.bx m i x=>(chkT t x&&decide (n=m))&&decide (j=i)
 | .agg ts,.agg cs=>jfh ts cs
 | _,_=>false
def jfh:List TV→List SV→Bool
 | [],[]=>true
 | t :: ts,v :: vs=>chkV t v&&jfh ts vs
 | _,_=>false
end
mutual
def extV:TV→SV→List Vr
 | .d _,.d x=>[extT x]
 | .rp _ _,.rp _ i _=>[.n i]
 | .any,v=>[.v v]
 | .pv _ _,.pv ds _=>jag ds
 | .fb _ _,.fb _ ds=>jag ds
 | .bx _ _ _,.bx _ _ x=>[extT x]
 | .agg ts,.agg cs=>jbg ts cs
 | _,_=>[]
def jbg:List TV→List SV→List Vr
 | t :: ts,v :: vs=>extV t v++jbg ts vs
 | _,_=>[]
end
mutual
def jkh:TV→Nat→List Vr→SV
 | .d t,n,vs=>.d (jao t n vs)
 | .nils,_,_=>.nils
 | .own k,_,_=>.own k
 | .ptr k o,_,_=>.ptr k o
 | .nilp,_,_=>.nilp
 | .rp k o,n,vs=>.rp k (vN vs n) o
 | .fn f,_,_=>.fn f
 | .undef,_,_=>.undef
 | .any,n,vs=>vV vs n
 | .pv ts o,n,vs=>.pv (jrg ts n vs) o
 | .fb f ts,n,vs=>.fb f (jrg ts n vs)
 | .bx m j t,n,vs=>.bx m j (jao t n vs)
 | .agg ts,n,vs=>.agg (jdi ts n vs)
def jdi:List TV→Nat→List Vr→List SV
 | [],_,_=>[]
 | t :: ts,n,vs=>jkh t n vs :: jdi ts (n+nV t) vs
end
mutual
theorem jjx:∀{t:TV} {v:SV},chkV t v=true→(extV t v).length=nV t∧∀pre post,jkh t pre.length (pre++(extV t v++post))=v
 | .d t,v,h=>by
  cases v<;>first | (simp [chkV] at h;done) | skip
  refine ⟨by simp [extV,nV],fun pre post=>?_⟩
  simp only [chkV] at h
  simp only [jkh,extV,List.cons_append,List.nil_append,jcl h]
 | .nils,v,h=>by cases v<;>first | (simp [chkV] at h;done) | exact ⟨rfl,fun _ _=>rfl⟩
 | .own n,v,h=>by
  cases v<;>first | (simp [chkV] at h;done) | (simp [chkV] at h;subst h;exact ⟨rfl,fun _ _=>rfl⟩)
 | .ptr n o,v,h=>by
  cases v<;>first | (simp [chkV] at h;done) | (simp [chkV] at h;obtain ⟨rfl,rfl⟩:=h;exact ⟨rfl,fun _ _=>rfl⟩)
 | .nilp,v,h=>by cases v<;>first | (simp [chkV] at h;done) | exact ⟨rfl,fun _ _=>rfl⟩
 | .rp n o,v,h=>by
  cases v<;>first | (simp [chkV] at h;done) | skip
  simp [chkV] at h
  obtain ⟨rfl,rfl⟩:=h
  exact ⟨by simp [extV,nV],fun pre post=>by simp [jkh,extV,vN,jgj]⟩
 | .fn f,v,h=>by
  cases v<;>first | (simp [chkV] at h;done) | (simp [chkV] at h;subst h;exact ⟨rfl,fun _ _=>rfl⟩)
 | .undef,v,h=>by cases v<;>first | (simp [chkV] at h;done) | exact ⟨rfl,fun _ _=>rfl⟩
 | .any,v,h=>⟨by simp [extV,nV],fun pre post=>by simp [jkh,extV,vV,jgj]⟩
 | .pv ts o,v,h=>by
  cases v<;>first | (simp [chkV] at h;done) | skip
  simp [chkV] at h
  obtain ⟨h1,rfl⟩:=h
  obtain ⟨h2,h3⟩:=jce h1
  exact ⟨by simp [extV,nV,h2],fun pre post=>by simp only [jkh,extV,h3]⟩
 | .fb f ts,v,h=>by
  cases v<;>first | (simp [chkV] at h;done) | skip
  simp [chkV] at h
  obtain ⟨h1,rfl⟩:=h
  obtain ⟨h2,h3⟩:=jce h1
  exact ⟨by simp [extV,nV,h2],fun pre post=>by simp only [jkh,extV,h3]⟩
 | .bx n j t,v,h=>by
  cases v<;>first | (simp [chkV] at h;done) | skip
  simp only [chkV,Bool.and_eq_true,decide_eq_true_eq] at h
  obtain ⟨⟨h1,rfl⟩,rfl⟩:=h
  refine ⟨by simp [extV,nV],fun pre post=>?_⟩
  simp only [jkh,extV,List.cons_append,List.nil_append,jcl h1]
 | .agg ts,v,h=>by
  cases v<;>first | (simp [chkV] at h;done) | skip
  simp only [chkV] at h
  obtain ⟨h2,h3⟩:=jqf h
  exact ⟨by simp [extV,nV,h2],fun pre post=>by simp only [jkh,extV,h3]⟩
theorem jqf:∀{ts:List TV} {vs:List SV},jfh ts vs=true→(jbg ts vs).length=nVs ts∧∀pre post,jdi ts pre.length (pre++(jbg ts vs++post))=vs
 | [],[],_=>⟨rfl,fun _ _=>rfl⟩
 | [],_ :: _,h=>by simp [jfh] at h
 | _ :: _,[],h=>by simp [jfh] at h
 | t :: ts,v :: vs,h=>by
  simp only [jfh,Bool.and_eq_true] at h
  obtain ⟨h1,h2⟩:=jjx h.1
  obtain ⟨h3,h4⟩:=jqf h.2
  refine ⟨by simp [jbg,nVs,h1,h3],fun pre post=>?_⟩
  simp only [jdi,jbg,List.append_assoc]
  rw [h2]
  have:=h4 (pre++extV t v) post
  rw [List.length_append,h1,List.append_assoc] at this
  rw [this]
end
inductive TB where | box (ts:List TV) | row (e sz:Nat)
def nB:TB→Nat | .box ts=>nVs ts | .row _ _=>1
def chkB:TB→Blk→Bool | .box ts,.box cs=>jfh ts cs | .row e sz,.row e' sz' _=>decide (e=e')&&decide (sz=sz') | _,_=>false
def extB:TB→Blk→List Vr | .box ts,.box cs=>jbg ts cs | .row _ _,.row _ _ xs=>[.l xs] | _,_=>[]
def jto:TB→Nat→List Vr→Blk | .box ts,n,vs=>.box (jdi ts n vs) | .row e sz,n,vs=>.row e sz (vL vs n)
theorem jqx {t:TB} {b:Blk} (h:chkB t b=true):(extB t b).length=nB t∧∀pre post,jto t pre.length (pre++(extB t b++post))=b:=by
 cases t<;>cases b<;>first | (simp [chkB] at h;done) | skip
 ·simp only [chkB] at h
  obtain ⟨h1,h2⟩:=jqf h
  exact ⟨h1,fun pre post=>by simp only [jto,extB,h2]⟩
 ·simp only [chkB,Bool.and_eq_true,decide_eq_true_eq] at h
  obtain ⟨rfl,rfl⟩:=h
  exact ⟨rfl,fun pre post=>by simp [jto,extB,vL,jgj]⟩
def nH:List (Nat × TB)→Nat | []=>0 | (_,t) :: r=>nB t+nH r
def chkH:List (Nat × TB)→List (Nat × Blk)→Bool | [],[]=>true | (n,t) :: r,(k,b) :: s=>decide (n=k)&&chkB t b&&chkH r s | _,_=>false
def extH:List (Nat × TB)→List (Nat × Blk)→List Vr | (_,t) :: r,(_,b) :: s=>extB t b++extH r s | _,_=>[]
def jam:List (Nat × TB)→Nat→List Vr→List (Nat × Blk) | [],_,_=>[] | (k,t) :: r,n,vs=>(k,jto t n vs) :: jam r (n+nB t) vs
theorem jhq:∀{ts:List (Nat × TB)} {h:List (Nat × Blk)},chkH ts h=true→∀pre post,jam ts pre.length (pre++(extH ts h++post))=h
 | [],[],_,_,_=>rfl
 | [],_ :: _,h,_,_=>by simp [chkH] at h
 | _ :: _,[],h,_,_=>by simp [chkH] at h
 | (n,t) :: ts,(k,b) :: h,hc,pre,post=>by
  simp only [chkH,Bool.and_eq_true,decide_eq_true_eq] at hc
  obtain ⟨⟨rfl,h1⟩,h2⟩:=hc
  obtain ⟨h3,h4⟩:=jqx h1
  simp only [jam,extH,List.append_assoc]
  rw [h4]
  have:=jhq h2 (pre++extB t b) post
  rw [List.length_append,h3,List.append_assoc] at this
  rw [this]
structure TSt where
 m:List TV
 h:List (Nat × TB)
def chkS (T:TSt) (st:St):Bool:=jfh T.m st.m&&st.l.isEmpty&&chkH T.h st.h
def extS (T:TSt) (st:St):List Vr:=jbg T.m st.m++extH T.h st.h
def fillS (T:TSt) (vs:List Vr):St:=⟨jdi T.m 0 vs,[],jam T.h (nVs T.m) vs⟩
theorem jbr {T:TSt} {st:St} (h:chkS T st=true):fillS T (extS T st)=st:=by
 simp only [chkS,Bool.and_eq_true] at h
 obtain ⟨⟨h1,h2⟩,h3⟩:=h
 obtain ⟨h4,h5⟩:=jqf h1
 have e1:=h5 [] (extH T.h st.h)
 have e2:=jhq h3 (jbg T.m st.m) []
 rw [h4,List.append_nil] at e2
 have e3:st.l=[]:=by simpa using h2
 obtain ⟨m,l,h⟩:=st
 simp only [fillS,extS] at e1 e2 e3 ⊢
 subst e3
 simp only [List.nil_append,List.length_nil] at e1
 rw [e1,e2]
def tnames:List (Nat × TB)→List Nat | []=>[] | (n,_) :: r=>n :: tnames r
theorem jko:∀(ts:List (Nat × TB)) (n:Nat) (vs:List Vr),names (jam ts n vs)=tnames ts
 | [],_,_=>rfl
 | (k,t) :: r,n,vs=>by simp only [jam,names,tnames,jko r]
def sumT {β:Type} (T:TSt) (L:List Vr→Cont β→Option β):St→Cont β→Option β:=fun st K=>if chkS T st then L (extS T st) K else none
def loopK {β:Type} (C:Ctx) (T:TSt) (L:List Vr→Cont β→Option β) (K:Cont β):Cont β:=fun e st=>match e with
 | .normal=>sumT T L (trim (loopN C (tnames T.h)) st) K
 | .exit j=>K (.exit j) (trim (loopN C (tnames T.h)) st)
 | .ret=>K .ret st
theorem loop_ok {β:Type} {C:Ctx} {k o:Nat} {S:Nat→Option (St→Cont β→Option β)} {a:Code} (T:TSt) (L:Nat→List Vr→Cont β→Option β) (H:jzc C k S a (o+1)) (h0:∀vs K,L 0 vs K=none)
  (h1:∀m vs K,L (m+1) vs K=denK C S a (o+1) (fillS T vs) (loopK C T (L m) K)):SumOk C k (sumT T (L k)) (.loop a):=by
 have key:∀m st K,tnames T.h=names st.h∨True→Le (sumT T (L m) st K) ((iter (loopN C (tnames T.h)) (den C k a) m st).bind fun r=>K r.1 r.2):=by
  intro m
  induction m with
  | zero =>
   intro st K _ r h
   unfold sumT at h
   split at h
   ·rw [h0] at h;cases h
   ·cases h
  | succ m ih =>
   intro st K _
   unfold sumT
   split
   ·rename_i hc
    rw [h1,jbr hc]
    refine (jxl a (o+1) st _ H).trans ?_
    simp only [iter]
    cases den C k a st with
    | none=>exact .none _
    | some q =>
     obtain ⟨e,st1⟩:=q
     cases e with
     | normal=>exact ih _ K (.inr trivial)
     | exit j=>exact .refl _
     | ret=>exact .refl _
   ·exact .none _
 intro st K
 simp only [den]
 by_cases hc:chkS T st=true
 ·have hn:names st.h=tnames T.h:=by rw [←jbr hc];exact jko _ _ _
  rw [hn]
  exact key k st K (.inr trivial)
 ·unfold sumT
  rw [if_neg hc]
  exact .none _

def sumF {β:Type}:List (TSt × (List Vr→Cont β→Option β))→St→Cont β→Option β
 | [],_,_=>none
 | (T,L) :: r,st,K=>if chkS T st then L (extS T st) K else sumF r st K
def loopF {β:Type} (ns:List Nat) (F:List (TSt × (List Vr→Cont β→Option β))) (K:Cont β):Cont β:=fun e st=>match e with
 | .normal=>sumF F (trim ns st) K
 | .exit j=>K (.exit j) (trim ns st)
 | .ret=>K .ret st
def FamOk {β:Type} (X:St→Cont β→Option β):List (TSt × (List Vr→Cont β→Option β))→Prop
 | []=>True
 | (T,L) :: r=>(∀vs K,L vs K=X (fillS T vs) K)∧FamOk X r
def FamNone {β:Type}:List (TSt × (List Vr→Cont β→Option β))→Prop
 | []=>True
 | (_,L) :: r=>(∀vs K,L vs K=none)∧FamNone r
theorem sumF_none {β:Type}:∀{F:List (TSt × (List Vr→Cont β→Option β))} {st:St} {K:Cont β},FamNone F→sumF F st K=none
 | [],_,_,_=>rfl
 | (T,L) :: r,st,K,h=>by
  simp only [sumF]
  split
  ·exact h.1 _ _
  ·exact sumF_none h.2
theorem sumF_le {β:Type} {X:St→Cont β→Option β}:∀{F:List (TSt × (List Vr→Cont β→Option β))} {st:St} {K:Cont β},FamOk X F→Le (sumF F st K) (X st K)
 | [],_,_,_=>.none _
 | (T,L) :: r,st,K,h=>by
  simp only [sumF]
  split
  ·rename_i hc
   rw [h.1,jbr hc];exact .refl _
  ·exact sumF_le h.2
theorem loop_okF {β:Type} {C:Ctx} {k o:Nat} {S:Nat→Option (St→Cont β→Option β)} {a:Code} {T:TSt} {L:List Vr→Cont β→Option β} {r:List (TSt × (List Vr→Cont β→Option β))} (F:Nat→List (TSt × (List Vr→Cont β→Option β))) (H:jzc C k S a (o+1)) (h0:FamNone (F 0))
  (h1:∀m,FamOk (fun st K=>denK C S a (o+1) st (loopF (loopN C (tnames T.h)) (F m) K)) (F (m+1))) (hk:F k=(T,L) :: r):SumOk C k (sumT T L) (.loop a):=by
 have key:∀m st K,Le (sumF (F m) st K) ((iter (loopN C (tnames T.h)) (den C k a) m st).bind fun r=>K r.1 r.2):=by
  intro m
  induction m with
  | zero =>
   intro st K r h
   rw [sumF_none h0] at h;cases h
  | succ m ih =>
   intro st K
   refine (sumF_le (h1 m)).trans ?_
   refine (jxl a (o+1) st _ H).trans ?_
   simp only [iter]
   cases den C k a st with
   | none=>exact .none _
   | some q =>
    obtain ⟨e,st1⟩:=q
    cases e with
    | normal=>exact ih _ K
    | exit j=>exact .refl _
    | ret=>exact .refl _
 intro st K
 simp only [den]
 by_cases hc:chkS T st=true
 ·have hn:names st.h=tnames T.h:=by rw [←jbr hc];exact jko _ _ _
  rw [hn]
  have e:sumT T L st K=sumF (F k) st K:=by rw [hk];simp only [sumF,sumT];rw [if_pos hc,if_pos hc]
  rw [e]
  exact key k st K
 ·unfold sumT
  rw [if_neg hc]
  exact .none _

/-! ### functions -/
inductive TA where | one (t:TD) | agg (ts:List TD) | ptr (ts:List TD)
def nA:TA→Nat | .one _=>1 | .agg ts=>nTs ts | .ptr ts=>nTs ts
def chkA:TA→DV→Bool | .one t,.one d=>chkT t d | .agg ts,.agg ds=>jyf ts ds | .ptr ts,.ptr ds=>jyf ts ds | _,_=>false
def extA:DV→List Vr | .one d=>[extT d] | .agg ds=>jag ds | .ptr ds=>jag ds
def jvn:TA→Nat→List Vr→DV | .one t,n,vs=>.one (jao t n vs) | .agg ts,n,vs=>.agg (jrg ts n vs) | .ptr ts,n,vs=>.ptr (jrg ts n vs)
theorem jhy {t:TA} {x:DV} (h:chkA t x=true):(extA x).length=nA t∧∀pre post,jvn t pre.length (pre++(extA x++post))=x:=by
 cases t<;>cases x<;>first | (simp [chkA] at h;done) | skip
 ·simp only [chkA] at h
  exact ⟨rfl,fun pre post=>by simp only [jvn,extA,List.cons_append,List.nil_append,jcl h]⟩
 ·simp only [chkA] at h
  obtain ⟨h1,h2⟩:=jce h
  exact ⟨h1,fun pre post=>by simp only [jvn,extA,h2]⟩
 ·simp only [chkA] at h
  obtain ⟨h1,h2⟩:=jce h
  exact ⟨h1,fun pre post=>by simp only [jvn,extA,h2]⟩
def jul:List TA→List DV→Bool | [],[]=>true | t :: ts,x :: xs=>chkA t x&&jul ts xs | _,_=>false
def jqr:List DV→List Vr | []=>[] | x :: xs=>extA x++jqr xs
def fillAs:List TA→Nat→List Vr→List DV | [],_,_=>[] | t :: ts,n,vs=>jvn t n vs :: fillAs ts (n+nA t) vs
theorem jwo:∀{ts:List TA} {xs:List DV},jul ts xs=true→∀pre post,fillAs ts pre.length (pre++(jqr xs++post))=xs
 | [],[],_,_,_=>rfl
 | [],_ :: _,h,_,_=>by simp [jul] at h
 | _ :: _,[],h,_,_=>by simp [jul] at h
 | t :: ts,x :: xs,h,pre,post=>by
  simp only [jul,Bool.and_eq_true] at h
  obtain ⟨h1,h2⟩:=jhy h.1
  simp only [fillAs,jqr,List.append_assoc]
  rw [h2]
  have:=jwo h.2 (pre++extA x) post
  rw [List.length_append,h1,List.append_assoc] at this
  rw [this]
def cellsDV:DV→List D | .one d=>[d] | .agg ds=>ds | .ptr ds=>ds
def nthR:List DV→Nat→DV | [],_=>.agg [] | x :: _,0=>x | _ :: xs,n+1=>nthR xs n
def nthO:List (List D)→Nat→List D | [],_=>[] | x :: _,0=>x | _ :: xs,n+1=>nthO xs n
def isDs:List D→List D→Bool | [],[]=>true | z :: zs,x :: xs=>isD z x&&isDs zs xs | _,_=>false
def isV:DV→DV→Bool | .one z,.one x=>isD z x | .agg zs,.agg xs=>isDs zs xs | .ptr zs,.ptr xs=>isDs zs xs | _,_=>false
def isVs:List DV→List DV→Bool | [],[]=>true | z :: zs,x :: xs=>isV z x&&isVs zs xs | _,_=>false
def isOs:List (List D)→List (List D)→Bool | [],[]=>true | z :: zs,x :: xs=>isDs z x&&isOs zs xs | _,_=>false
def resC (o:Rs) (i j:Nat):D:=match o with | some (rs,_)=>nthD (cellsDV (nthR rs i)) j | none=>.b false
def outC (o:Rs) (i j:Nat):D:=match o with | some (_,os)=>nthD (nthO os i) j | none=>.b false
def okR (zr:List DV) (zo:List (List D)) (o:Rs):Bool:=match o with | some (rs,os)=>isVs zr rs&&isOs zo os | none=>false
def etaR (o:Rs) (i:Nat):List D→Nat→List D | [],_=>[] | z :: zs,j=>etaD z (resC o i j) :: etaR o i zs (j+1)
def etaO (o:Rs) (i:Nat):List D→Nat→List D | [],_=>[] | z :: zs,j=>etaD z (outC o i j) :: etaO o i zs (j+1)
def jhh (o:Rs):List DV→Nat→List DV
 | [],_=>[]
 | .one z :: zs,i=>.one (etaD z (resC o i 0)) :: jhh o zs (i+1)
 | .agg z :: zs,i=>.agg (etaR o i z 0) :: jhh o zs (i+1)
 | .ptr z :: zs,i=>.ptr (etaR o i z 0) :: jhh o zs (i+1)
def jor (o:Rs):List (List D)→Nat→List (List D)
 | [],_=>[]
 | z :: zs,i=>etaO o i z 0 :: jor o zs (i+1)
def gOf (zr:List DV) (zo:List (List D)) (o:Rs):Bool × List DV × List (List D):=(okR zr zo o,jhh o zr 0,jor o zo 0)
theorem jmp {rs:List DV} {os:List (List D)} {i:Nat}:∀{zs ds:List D} {j:Nat},isDs zs ds=true→(∀m d,ds[m]? = some d→nthD (cellsDV (nthR rs i)) (j+m)=d)→etaR (some (rs,os)) i zs j=ds
 | [],[],j,_,_=>rfl
 | [],_ :: _,_,h,_=>by simp [isDs] at h
 | _ :: _,[],_,h,_=>by simp [isDs] at h
 | z :: zs,d :: ds,j,h,hg=>by
  simp only [isDs,Bool.and_eq_true] at h
  have h0:=hg 0 d rfl
  simp only [etaR,resC]
  rw [Nat.add_zero] at h0
  rw [h0,jei h.1,jmp h.2 (fun m x hm=>by rw [show j+1+m=j+(m+1) by omega];exact hg (m+1) x (by simpa using hm))]
theorem jbv {rs:List DV} {os:List (List D)} {i:Nat}:∀{zs ds:List D} {j:Nat},isDs zs ds=true→(∀m d,ds[m]? = some d→nthD (nthO os i) (j+m)=d)→etaO (some (rs,os)) i zs j=ds
 | [],[],j,_,_=>rfl
 | [],_ :: _,_,h,_=>by simp [isDs] at h
 | _ :: _,[],_,h,_=>by simp [isDs] at h
 | z :: zs,d :: ds,j,h,hg=>by
  simp only [isDs,Bool.and_eq_true] at h
  have h0:=hg 0 d rfl
  simp only [etaO,outC]
  rw [Nat.add_zero] at h0
  rw [h0,jei h.1,jbv h.2 (fun m x hm=>by rw [show j+1+m=j+(m+1) by omega];exact hg (m+1) x (by simpa using hm))]
theorem jrl:∀{ds:List D} {m:Nat} {d:D},ds[m]? = some d→nthD ds m=d
 | [],m,d,h=>by simp at h
 | x :: ds,0,d,h=>by simpa [nthD] using h
 | x :: ds,m+1,d,h=>by simp only [nthD];exact jrl (by simpa using h)
theorem jrt {rs:List DV} {os:List (List D)}:∀{zs xs:List DV} {i:Nat},isVs zs xs=true→(∀m x,xs[m]? = some x→nthR rs (i+m)=x)→jhh (some (rs,os)) zs i=xs
 | [],[],i,_,_=>rfl
 | [],_ :: _,_,h,_=>by simp [isVs] at h
 | _ :: _,[],_,h,_=>by simp [isVs] at h
 | z :: zs,x :: xs,i,h,hg=>by
  simp only [isVs,Bool.and_eq_true] at h
  have h0:=hg 0 x rfl
  rw [Nat.add_zero] at h0
  have ht:=jrt (rs:=rs) (os:=os) (i:=i+1) h.2 (fun m y hm=>by rw [show i+1+m=i+(m+1) by omega];exact hg (m+1) y (by simpa using hm))
  cases z<;>cases x<;>first | (simp [isV] at h;done) | skip
  ·simp only [jhh,resC,h0,cellsDV,nthD,ht]
   simp only [isV] at h
   rw [jei h.1]
  ·simp only [isV] at h
   simp only [jhh,ht]
   rw [jmp h.1 (fun m d hm=>by rw [h0,Nat.zero_add];exact jrl hm)]
  ·simp only [isV] at h
   simp only [jhh,ht]
   rw [jmp h.1 (fun m d hm=>by rw [h0,Nat.zero_add];exact jrl hm)]
theorem jqs {rs:List DV} {os:List (List D)}:∀{zs xs:List (List D)} {i:Nat},isOs zs xs=true→(∀m x,xs[m]? = some x→nthO os (i+m)=x)→jor (some (rs,os)) zs i=xs
 | [],[],i,_,_=>rfl
 | [],_ :: _,_,h,_=>by simp [isOs] at h
 | _ :: _,[],_,h,_=>by simp [isOs] at h
 | z :: zs,x :: xs,i,h,hg=>by
  simp only [isOs,Bool.and_eq_true] at h
  have h0:=hg 0 x rfl
  rw [Nat.add_zero] at h0
  simp only [jor]
  rw [jbv h.1 (fun m d hm=>by rw [h0,Nat.zero_add];exact jrl hm),jqs h.2 (fun m y hm=>by rw [show i+1+m=i+(m+1) by omega];exact hg (m+1) y (by simpa using hm))]
theorem jsu:∀{xs:List DV} {m:Nat} {x:DV},xs[m]? = some x→nthR xs m=x
 | [],m,d,h=>by simp at h
 | y :: ds,0,d,h=>by simpa [nthR] using h
 | y :: ds,m+1,d,h=>by simp only [nthR];exact jsu (by simpa using h)
theorem jeu:∀{xs:List (List D)} {m:Nat} {x:List D},xs[m]? = some x→nthO xs m=x
 | [],m,d,h=>by simp at h
 | y :: ds,0,d,h=>by simpa [nthO] using h
 | y :: ds,m+1,d,h=>by simp only [nthO];exact jeu (by simpa using h)
theorem opt_gOf {zr:List DV} {zo:List (List D)} {o:Rs} {r:List DV × List (List D)} (h:opt (gOf zr zo o)=some r):o=some r:=by
 unfold opt gOf at h
 split at h
 ·rename_i hok
  cases o with
  | none=>cases hok
  | some q =>
   obtain ⟨rs,os⟩:=q
   simp only [okR,Bool.and_eq_true] at hok
   rw [jrt hok.1 (fun m x hm=>by rw [Nat.zero_add];exact jsu hm),jqs hok.2 (fun m x hm=>by rw [Nat.zero_add];exact jeu hm)] at h
   exact h
 ·cases h
def argsT (TS:List TA) (t:List Vr→Rs) (xs:List DV):Rs:=if jul TS xs then t (jqr xs) else none
def bodyK (C:Ctx) (S:Nat→Option (St→Cont (List DV × List (List D))→Rs)) (fn:Func) (sg:Sig) (c:Code) (xs:List DV):Rs :=
 match initP 0 sg.ms xs with
 | some (vs,h)=>(match adds ⟨initM sg.keep vs,[],[]⟩ h with
  | some st=>denK C S c 0 { st with h:=bxH 0 sg.ms st.h } fun e st=>fin C fn sg (some (e,st))
  | none=>none)
 | none=>none
theorem body_ok {P:Program} {sig:Nat→Sig} {F:Nat→List DV→Bool × List DV × List (List D)} {k f:Nat} {fn:Func} {c:Code} {S:Nat→Option (St→Cont (List DV × List (List D))→Rs)} (hfn:P.funcs[f]? = some fn) (hb:fn.body=some c) (TS:List TA) (t:List Vr→Rs)
  (H:jzc ⟨P,sig,F,(sig f).keep,(sig f).ord⟩ k S c 0) (ht:∀vs,t vs=bodyK ⟨P,sig,F,(sig f).keep,(sig f).ord⟩ S fn (sig f) c (fillAs TS 0 vs)) {xs:List DV} {r:List DV × List (List D)} (h:argsT TS t xs=some r) :
  evalBody P sig F k f xs=some r:=by
 unfold argsT at h
 split at h
 ·rename_i hc
  have e:=jwo hc [] []
  simp only [List.length_nil,List.append_nil,List.nil_append] at e
  rw [ht,e] at h
  unfold evalBody
  rw [hfn]
  dsimp only
  rw [hb]
  dsimp only
  unfold bodyK at h
  split at h
  ·rename_i vs hh hi
   rw [hi]
   dsimp only
   split at h
   ·rename_i st ha
    rw [ha]
    dsimp only
    have:=jxl c 0 _ _ H r h
    cases hd:den ⟨P,sig,F,(sig f).keep,(sig f).ord⟩ k c { st with h:=bxH 0 (sig f).ms st.h } with
    | none=>rw [hd] at this;cases this
    | some q=>rw [hd] at this;exact this
   ·cases h
  ·cases h
 ·cases h
/-! ### tables -/
def lkF {α:Type} (d:α):List (Nat × α)→Nat→α | [],_=>d | (a,v) :: r,n=>if a=n then v else lkF d r n
def lkS {β:Type}:List (Nat × (St→Cont β→Option β))→Nat→Option (St→Cont β→Option β) | [],_=>none | (a,v) :: r,n=>if a=n then some v else lkS r n
def AllS {β:Type} (C:Ctx) (k:Nat) (c:Code) (o:Nat):List (Nat × (St→Cont β→Option β))→Prop
 | []=>True
 | (a,s) :: r=>(∀n,nodeAt c (a - o)=some n→o≤a→SumOk C k s n)∧AllS C k c o r
theorem sums_of {β:Type} {C:Ctx} {k o:Nat} {c:Code} {t:List (Nat × (St→Cont β→Option β))} (h:AllS C k c o t):jzc C k (lkS t) c o:=fun j n s hn hs=>by
 induction t with
 | nil=>cases hs
 | cons e r ih =>
  obtain ⟨a,x⟩:=e
  simp only [lkS] at hs
  split at hs
  ·rename_i e;subst e;cases hs
   exact h.1 n (by rw [Nat.add_sub_cancel_left];exact hn) (Nat.le_add_right _ _)
  ·exact ih h.2 hs
def altS {β:Type} (T:TSt) (a b:St→Cont β→Option β):St→Cont β→Option β:=fun st K=>if chkS T st then a st K else b st K
theorem alt_ok {β:Type} {C:Ctx} {k:Nat} {T:TSt} {a b:St→Cont β→Option β} {c:Code} (h1:SumOk C k a c) (h2:SumOk C k b c):SumOk C k (altS T a b) c:=fun st K=>by
 unfold altS
 split
 ·exact h1 st K
 ·exact h2 st K
theorem sum_in {β:Type} {C:Ctx} {k j:Nat} {c c':Code} {s:St→Cont β→Option β} {o a:Nat} (e:nodeAt c j=some c') (h:SumOk C k s c'):∀n,nodeAt c j=some n→o≤a→SumOk C k s n:=fun n hn _=>by
 rw [e] at hn;cases hn;exact h
theorem sum_out {β:Type} {C:Ctx} {k j:Nat} {c:Code} {s:St→Cont β→Option β} {o a:Nat} (e:nodeAt c j=none):∀n,nodeAt c j=some n→o≤a→SumOk C k s n:=fun n hn _=>by
 rw [e] at hn;cases hn
def AllG (Q:Nat→List DV→List DV × List (List D)→Prop):List (Nat × (List DV→Bool × List DV × List (List D)))→Prop
 | []=>True
 | (f,g) :: r=>(∀xs q,opt (g xs)=some q→Q f xs q)∧AllG Q r
theorem allG_of {Q:Nat→List DV→List DV × List (List D)→Prop} {t:List (Nat × (List DV→Bool × List DV × List (List D)))} (h:AllG Q t):∀f xs q,opt (lkF (fun _=>(false,[],[])) t f xs)=some q→Q f xs q:=fun f xs q hq=>by
 induction t with
 | nil=>simp [lkF,opt] at hq
 | cons e r ih =>
  obtain ⟨a,g⟩:=e
  simp only [lkF] at hq
  split at hq
  ·rename_i e;subst e;exact h.1 xs q hq
  ·exact ih h.2 hq
end Go.Den
