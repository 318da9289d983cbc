/- The evaluator of Go code over plain data, and its soundness: part 3 of 9. -/
import Derived.Test.YtbmgnecedmcneaaGreatDm2
import Derived.Laws.MakeOwn
set_option linter.unusedVariables false
set_option linter.unusedSimpArgs false
/- A call that only reads, and gives back scalars. -/
namespace Go.Den
open Go
variable {C:Ctx} {R:Rt} {G:Gh} {st:St} {a:Act} {w w':World} {p:Path} {o:Oper}

structure Ext (w w':World):Prop where
 os:w'.os=w.os
 tape:w'.tape=w.tape
 output:w'.output=w.output
 size:w.heap.size≤w'.heap.size
 old:∀k,k < w.heap.size→w'.heap[k]? = w.heap[k]?
theorem Ext.refl (w:World):Ext w w:=⟨rfl,rfl,rfl,Nat.le_refl _,fun _ _=>rfl⟩
theorem jez (H:WInv R w) (he:Ext w w'):WInv R w' where
 os:=he.os.trans H.os
 tape:=he.tape.trans H.tape
 output:=he.output.trans H.output
 size:=Nat.le_trans H.size he.size
 T:=H.T
 old:=fun k hk hL=>(he.old k (Nat.lt_of_lt_of_le hk H.size)).trans (H.old k hk hL)
 out:=fun k lo hi h=>by
  obtain ⟨cur,cur0,e,fz,h1,h2,h3,h4⟩:=H.out k lo hi h
  have hk:k < w.heap.size:=(Array.getElem?_eq_some_iff.1 h2).1
  exact ⟨cur,cur0,e,fz,h1,by rw [he.old k hk];exact h2,h3,h4⟩
theorem jge {h:List (Nat × Blk)} {P:Program} {n:Nat} {b:Blk} (hw:∀k,G.φ n k→w'.heap[k]? = w.heap[k]?) (hx:BRel R G h P w n b):BRel R G h P w' n b:=by
 cases b with
 | row e sz xs=>obtain ⟨h1,h2,h3,h4⟩:=hx;exact ⟨h1.mono (fun _ h=>h) hw,h2,h3,h4⟩
 | box cs=>obtain ⟨cur,e,h1,h2,h3⟩:=hx;exact ⟨cur,e,by rw [hw _ h2];exact h1,h2,h3⟩
theorem jvp {S:Nat→Prop} (H:InvS S C R G st a w) (hW:WInv R w') (hs:w.heap.size≤w'.heap.size) (hw:∀n,G.live n→¬ S n→∀k,G.φ n k→w'.heap[k]? = w.heap[k]?):InvS S C R G st a w' where
 W:=hW
 B:=⟨fun n hn hS=>by obtain ⟨b,h1,h2⟩:=H.B.rel n hn hS;exact ⟨b,h1,jge (hw n hn hS) h2⟩,H.B.disj,fun n hn hS k hk=>⟨Nat.lt_of_lt_of_le (H.B.mine n hn hS k hk).1 hs,(H.B.mine n hn hS k hk).2⟩,H.B.fix⟩
 all:=H.all
 slots:=H.slots
 l:=H.l
 m:=H.m
theorem jtc {S:Nat→Prop} (H:InvS S C R G st a w) (he:Ext w w'):InvS S C R G st a w' :=
 jvp H (jez H.W he) he.size (fun n hn hS k hk=>he.old k (H.B.mine n hn hS k hk).1)

def jnh (P:Program) (f:Nat):Prop:=∃fn c,P.funcs[f]? = some fn∧fn.body=some c∧(fn.name == "runtime.NumGoroutine")=false
theorem jyq {P:Program} {f:Nat} (h:jnh P f) (args:Array Value) (w:World):(callFunc f args).run P w=.ok (.enter f args) w:=by
 obtain ⟨fn,c,h1,h2,h3⟩:=h
 have h3':¬ ((fn.name == "runtime.NumGoroutine")=true):=by rw [h3];simp
 simp only [callFunc,Sem.run_bind,run_program,Result.andThen_ok,h1]
 rw [if_neg h3',if_neg (by simp [h2])]
 rfl
theorem jae {P:Program} {f:Nat} {args:Array Operand} {ts:Array TypeId} (hf:jnh P f) (ho:o.op=.call { callee:=.value (.func f),args,argTypes:=ts }):(execOp a.eval o).run P w=.ok (.enter f (args.map a.eval)) w:=by
 simp [execOp,ho,resolve,Deferred.ofValue,Act.eval,invoke,jyq hf]

def jca (R:Rt) (G:Gh) (h:List (Nat × Blk)) (xs:List SV) (vs:List Value):Prop:=vs.length=xs.length∧∀(j:Nat) x,xs[j]? = some x→∃v,vs[j]? = some v∧VRel R G h x v
theorem jca.tail {h:List (Nat × Blk)} {x:SV} {xs:List SV} {vs:List Value} (H:jca R G h (x :: xs) vs):∃v vs',vs=v :: vs'∧VRel R G h x v∧jca R G h xs vs':=by
 obtain ⟨h1,h2⟩:=H
 cases vs with
 | nil=>simp at h1
 | cons v vs' =>
  obtain ⟨v',h3,h4⟩:=h2 0 x rfl
  simp at h3;subst h3
  exact ⟨v,vs',rfl,h4,by simpa using h1,fun j x hj=>by simpa using h2 (j+1) x (by simpa using hj)⟩
theorem jjj {xs:List Operand} (hg:Good st.l p) (hs:Slots C R G st a xs):jca R G st.h (evs C st p xs) (xs.map a.eval):=by
 refine ⟨by simp [jcj],fun j x hj=>?_⟩
 obtain ⟨y,h1,rfl,h2⟩:=jgu hg xs hs j x hj
 exact ⟨a.eval y,by simp [h1],h2⟩
theorem joj {S:Nat→Prop} {L:Nat→Prop} {LB:Nat→Nat→Nat→Prop} {G0:Gh} {h0:List (Nat × Blk)} (H:InvS S C R G st a w) (hG:Gle G G0) (hH:Has G0 h0 G st.h):∀(ms:List Mode) (xs:List SV) (vs:List Value) (ds:List DV) (Θ:Nat→Nat→Nat→Prop),jca R G0 h0 xs vs→zipArgs st ms xs=some ds→jwf C.P (R.sub G S w L LB) ms ds vs Θ
 | [],[],vs,ds,Θ,hv,h=>by
  simp only [zipArgs,Option.some.injEq] at h
  subst h
  have:vs=[]:=List.eq_nil_of_length_eq_zero (by simpa using hv.1)
  subst this
  trivial
 | m :: ms,x :: xs,vs,ds,Θ,hv,h=>by
  obtain ⟨v,vs',rfl,h1,hv'⟩:=hv.tail
  simp only [zipArgs] at h
  split at h
  ·rename_i d hd
   split at h
   ·rename_i ds' hds
    cases h
    exact ⟨jrm H hG hH h1 hd (Θ 0),joj H hG hH ms xs vs' ds' _ hv' hds⟩
   ·cases h
  ·cases h
 | [],_ :: _,vs,ds,Θ,hv,h=>by simp [zipArgs] at h
 | _ :: _,[],vs,ds,Θ,hv,h=>by simp [zipArgs] at h
theorem scK_rel {R':Rt} {h:List (Nat × Blk)} {x:DV} {v:Value} (hx:ScK R' x v):VRel R G h (svOf x) v:=by
 have sc:∀{d:D} {u:Value},isSc d=true→Rep R'.w0 R'.T d u→Rep R.w0 R.T d u∧u.oneCell'=true:=by
  intro d u h1 h2
  cases h2 with
  | b x=>exact ⟨.b _,rfl⟩
  | i k n=>exact ⟨.i _ _,rfl⟩
  | s x=>exact ⟨.s _,rfl⟩
  | nil A cap=>cases h1
  | l=>cases h1
 cases x with
 | one d=>exact (sc hx.1 hx.2).1
 | agg ds =>
  obtain ⟨us,h1,h2,h3⟩:=hx
  refine ⟨us,h1,by simpa using h2,fun j y hj=>?_⟩
  rw [List.getElem?_map,Option.map_eq_some_iff] at hj
  obtain ⟨d,hd,rfl⟩:=hj
  obtain ⟨h4,u,h5,h6⟩:=h3 j d hd
  obtain ⟨h7,h8⟩:=sc h4 h6
  exact ⟨u,h5,h8,h7⟩
 | ptr ds=>exact hx.elim
theorem jpx {h:List (Nat × Blk)} {x:SV} {v:Value} (hx:VRel R G h x v) (hn:∀vs,x≠.tup vs):ARel R G h x v:=by rwa [jni hn] at hx
theorem jec {h:List (Nat × Blk)} {xs:List SV} {vs:List Value} (hv:jca R G h xs vs) (hn:∀x∈xs,∀ys,x≠.tup ys):VRel R G h (single xs) (jke vs):=by
 match xs,vs,hv with
 | [x],[v],hv =>
  obtain ⟨v',h1,h2⟩:=hv.2 0 x rfl
  simp at h1;subst h1
  exact h2
 | [],[],hv=>exact ⟨[],rfl,rfl,fun j x hj=>by simp at hj⟩
 | x :: y :: xs,u :: v :: vs,hv =>
  refine ⟨u :: v :: vs,rfl,by simpa using hv.1,fun j z hj=>?_⟩
  obtain ⟨t,h1,h2⟩:=hv.2 j z hj
  exact ⟨t,h1,jpx h2 (hn z (List.mem_of_getElem? hj))⟩
 | [],_ :: _,hv=>simp [jca] at hv
 | [_],[],hv=>simp [jca] at hv
 | [_],_ :: _ :: _,hv=>have:=hv.1;simp at this
 | _ :: _ :: _,[],hv=>have:=hv.1;simp at this
 | _ :: _ :: _,[_],hv=>have:=hv.1;simp at this
theorem jng (R:Rt) (G:Gh) {R':Rt} (h:List (Nat × Blk)):∀{rs:List DV} {vs:List Value},ScsK R' rs vs→jca R G h (svsOf rs) vs
 | [],[],_=>⟨rfl,fun j x hj=>by simp [svsOf] at hj⟩
 | x :: rs,v :: vs,hx=>by
  obtain ⟨h1,h2⟩:=jng R G h hx.2
  refine ⟨by simp [svsOf,h1],fun j y hj=>?_⟩
  cases j with
  | zero=>simp [svsOf] at hj;subst hj;exact ⟨v,rfl,scK_rel hx.1⟩
  | succ j=>simpa using h2 j y (by simpa [svsOf] using hj)
 | [],_ :: _,hx=>hx.elim
 | _ :: _,[],hx=>hx.elim
theorem jaf:∀(rs:List DV),∀x∈svsOf rs,∀ys,x≠SV.tup ys
 | [],x,hx,ys=>by simp [svsOf] at hx
 | r :: rs,x,hx,ys=>by
  simp only [svsOf,List.mem_cons] at hx
  rcases hx with rfl | hx
  ·cases r<;>simp [svOf]
  ·exact jaf rs x hx ys

theorem jkn {f:Nat} {vals:List Value} {zs:List DV} {xs:List DV} {v:SV} {K:Act→World→Prop} {Q:Exit→Act→World→Prop} (H:Inv C R G st a w) {sv:List SV} (hvals:jca R G st.h sv vals) (hrun:(execOp a.eval o).run C.P w=.ok (.enter f vals.toArray) w)
  (hS:SpecOk C.P (C.sig f) (fun xs=>opt (C.F f xs)) f) (hr:(C.sig f).r=.sc zs) (hz:zipArgs st (C.sig f).ms sv=some xs) (hv:scOf (C.F f xs)=(true,v))
  (hK:∀val w',Ext w w'→VRel R G st.h v val→K (a.put o.dst val) w'):o.wp C.P a w K Q:=by
 cases hFx:C.F f xs with | mk ok r =>
 obtain ⟨rs,outs⟩:=r
 rw [hFx] at hv
 simp only [scOf,Prod.mk.injEq,Bool.and_eq_true] at hv
 obtain ⟨⟨ho',hok⟩,rfl⟩:=hv
 subst hok
 have ho':outs=[]:=by simpa using ho'
 subst ho'
 have heq:opt (C.F f xs)=some (rs,[]):=by rw [hFx];rfl
 ·skip
  have hT:∀k,(R.sub G (fun _=>False) w (fun _=>False) (fun _ _ _=>False)).T k→k < w.heap.size∧¬ False:=by
   intro k hk
   rcases hk with hk | ⟨n,⟨hn,_⟩,hk⟩
   ·exact ⟨Nat.lt_of_lt_of_le (H.W.T k hk).1 H.W.size,id⟩
   ·exact ⟨(H.B.mine n hn id k hk).1,id⟩
  have hpre:Pre C.P (C.sig f) (R.sub G (fun _=>False) w (fun _=>False) (fun _ _ _=>False)) xs vals (fun _ _ _=>False) :=
   ⟨⟨rfl,rfl,rfl,Nat.le_refl _,hT,fun _ _ _=>rfl,fun _ _ _ h=>h.elim⟩,joj H (Gle.refl G) (Has.refl G _) _ _ _ _ _ hvals hz,fun _ _ _ h=>h.elim,fun _ _ _ h=>h.elim,fun _ _ _ _ _ h=>h.elim,fun _ _ _ _ h=>h.elim⟩
  have hc:=hS _ xs _ _ rs [] heq rfl hpre
  unfold Oper.wp
  rw [hrun]
  show Calls C.P f _ w _
  refine hc.mono fun e w' he=>?_
  obtain ⟨rv,Ξ,Ω,rfl,hp⟩:=he
  have hext:Ext w w':=⟨hp.W.os,hp.W.tape,hp.W.output,hp.W.size,fun k hk=>hp.W.old k hk id⟩
  have hres:=hp.res
  rw [hr] at hres
  exact hK _ _ hext (jec (jng R G _ hres) (jaf rs))
theorem jbw {f:Nat} {args:Array Operand} {ts:Array TypeId} {zs:List DV} {xs:List DV} {v:SV} {K:Act→World→Prop} {Q:Exit→Act→World→Prop} (H:Inv C R G st a w) {sv:List SV} (hvals:jca R G st.h sv (args.toList.map a.eval)) (ho:o.op=.call { callee:=.value (.func f),args,argTypes:=ts })
  (hF:jnh C.P f) (hS:SpecOk C.P (C.sig f) (fun xs=>opt (C.F f xs)) f) (hr:(C.sig f).r=.sc zs) (hz:zipArgs st (C.sig f).ms sv=some xs) (hv:scOf (C.F f xs)=(true,v))
  (hK:∀val w',Ext w w'→VRel R G st.h v val→K (a.put o.dst val) w'):o.wp C.P a w K Q :=
 jkn H hvals (by rw [jae hF ho];congr 2;rw [←Array.toList_map]) hS hr hz hv hK
theorem pv_back (H:WInv R w) {L:Nat→Prop} {LB:Nat→Nat→Nat→Prop} {cs:List D} {off:Nat} {v:Value} (h:PvR (R.sub G (fun _=>True) w L LB) cs off v):PvR R cs off v:=by
 have hT:∀k,(R.sub G (fun _=>True) w L LB).T k→R.T k:=fun k hk=>by
  rcases hk with hk | ⟨n,⟨_,hn⟩,_⟩
  ·exact hk
  ·exact absurd trivial hn
 have hw:∀k,(R.sub G (fun _=>True) w L LB).T k→R.w0.heap[k]? = w.heap[k]?:=fun k hk=>(H.old k (H.T k (hT k hk)).1 (H.T k (hT k hk)).2).symm
 obtain ⟨g,o,h1,h2,h3⟩:=h
 refine ⟨g,o,h1,hT g h2,fun j d hj=>?_⟩
 obtain ⟨u,h4,h5⟩:=h3 j d hj
 refine ⟨u,?_,h5.mono hT hw⟩
 rw [World.cell?_of_block (hw g h2)]
 exact h4
theorem jpo {P:Program} {L:Nat→Prop} {LB:Nat→Nat→Nat→Prop} {h0:List (Nat × Blk)} (H:WInv R w):∀(ms:List Mode) (xs:List SV) (vs:List Value) (ds:List DV) (Θ:Nat→Nat→Nat→Prop),jca R G h0 xs vs→jud ms xs=some ds→jwf P (R.sub G (fun _=>True) w L LB) ms ds vs Θ
 | [],[],vs,ds,Θ,hv,h=>by
  simp only [jud,Option.some.injEq] at h
  subst h
  have:vs=[]:=List.eq_nil_of_length_eq_zero (by simpa using hv.1)
  subst this
  trivial
 | m :: ms,x :: xs,vs,ds,Θ,hv,h=>by
  obtain ⟨v,vs',rfl,h1,hv'⟩:=hv.tail
  simp only [jud] at h
  split at h
  ·rename_i d hd
   split at h
   ·rename_i ds' hds
    cases h
    exact ⟨jdx H h1 hd (Θ 0),jpo H ms xs vs' ds' _ hv' hds⟩
   ·cases h
  ·cases h
 | [],_ :: _,vs,ds,Θ,hv,h=>by simp [jud] at h
 | _ :: _,[],vs,ds,Θ,hv,h=>by simp [jud] at h
theorem jlw {f:Nat} {vals:List Value} {zs:List D} {xs:List DV} {v:SV} {K:Act→World→Prop} {Q:Exit→Act→World→Prop} (H:WInv R w) {h0:List (Nat × Blk)} {sv:List SV} (hvals:jca R G h0 sv vals) (hrun:(execOp a.eval o).run C.P w=.ok (.enter f vals.toArray) w)
  (hS:SpecOk C.P (C.sig f) (fun xs=>opt (C.F f xs)) f) (hr:(C.sig f).r=.ep zs) (hz:jud (C.sig f).ms sv=some xs) (hv:epOf (C.F f xs)=(true,v))
  (hK:∀val w',Ext w w'→VRel R G h0 v val→K (a.put o.dst val) w'):o.wp C.P a w K Q:=by
 cases hFx:C.F f xs with | mk ok r =>
 obtain ⟨rs,outs⟩:=r
 rw [hFx] at hv
 simp only [epOf,Prod.mk.injEq,Bool.and_eq_true] at hv
 obtain ⟨⟨ho',hok⟩,hv⟩:=hv
 subst hok
 have ho':outs=[]:=by simpa using ho'
 subst ho'
 have heq:opt (C.F f xs)=some (rs,[]):=by rw [hFx];rfl
 have hpre:Pre C.P (C.sig f) (R.sub G (fun _=>True) w (fun _=>False) (fun _ _ _=>False)) xs vals (fun _ _ _=>False) :=
  ⟨⟨rfl,rfl,rfl,Nat.le_refl _,fun k hk=>by
    rcases hk with hk | ⟨n,⟨_,hn⟩,_⟩
    ·exact ⟨Nat.lt_of_lt_of_le (H.T k hk).1 H.size,id⟩
    ·exact absurd trivial hn,fun _ _ _=>rfl,fun _ _ _ h=>h.elim⟩,jpo H _ _ _ _ _ hvals hz,fun _ _ _ h=>h.elim,fun _ _ _ h=>h.elim,fun _ _ _ _ _ h=>h.elim,fun _ _ _ _ h=>h.elim⟩
 have hc:=hS _ xs _ _ rs [] heq rfl hpre
 unfold Oper.wp
 rw [hrun]
 show Calls C.P f _ w _
 refine hc.mono fun e w' he=>?_
 obtain ⟨rv,Ξ,Ω,rfl,hp⟩:=he
 have hext:Ext w w':=⟨hp.W.os,hp.W.tape,hp.W.output,hp.W.size,fun k hk=>hp.W.old k hk id⟩
 have hres:=hp.res
 rw [hr] at hres
 obtain ⟨b,ds,u,rfl,rfl,h1,h2⟩:=hres
 have hv':v=.op b ds:=hv.symm
 subst hv'
 exact hK _ _ hext ⟨fun hb=>pv_back H (h1 hb),h2⟩
end Go.Den

/- Every operation that changes nothing does what the evaluator says. -/
namespace Go.Den
open Go
variable {C:Ctx} {R:Rt} {G:Gh} {st:St} {a:Act} {w w':World} {p:Path} {o:Oper}

structure CtxOk (C:Ctx):Prop where
 spec:∀f,SpecOk C.P (C.sig f) (fun xs=>opt (C.F f xs)) f
 fn:∀f xs r,opt (C.F f xs)=some r→jnh C.P f
 sig:∀f xs r,opt (C.F f xs)=some r→jvr C.P (C.sig f)
 mixed:C.P.follows .mixedOrders=true

/-! arguments are read from the memory alone -/
theorem jrw {st st':St} (h:st'.h=st.h):∀(xs:List SV),toDs st' xs=toDs st xs
 | []=>rfl
 | x :: xs=>by
  have:toD st' x=toD st x:=by cases x<;>simp only [toD,h]
  simp only [toDs,this,jrw h xs]
theorem toD_h {st st':St} (h:st'.h=st.h) (x:SV):toD st' x=toD st x:=by cases x<;>simp only [toD,h]
theorem juu {st st':St} (h:st'.h=st.h) (m:Mode) (x:SV):argOf st' m x=argOf st m x:=by
 unfold argOf
 split<;>simp only [jrw h,toD_h h,h]
theorem jhf {st st':St} (h:st'.h=st.h):∀(ms:List Mode) (xs:List SV),zipArgs st' ms xs=zipArgs st ms xs
 | [],[]=>rfl
 | [],_ :: _=>rfl
 | _ :: _,[]=>rfl
 | m :: ms,x :: xs=>by simp only [zipArgs,juu h,jhf h ms xs]
def St.bare (C:Ctx) (st:St):St:=⟨List.replicate C.keep.length .undef,[],st.h⟩
theorem jnf:∀(ks:List Nat) (t n:Nat),lkm ks (List.replicate n .undef) t=.undef
 | [],t,n=>by cases n<;>rfl
 | k :: ks,t,0=>rfl
 | k :: ks,t,n+1=>by simp only [List.replicate_succ,lkm,jnf ks t n];split<;>rfl
theorem Here.bare (H:Here C R G st a w p):Inv C R G (st.bare C) a w where
 W:=H.W
 B:=⟨fun n hn _=>H.B.rel n hn,fun n m hn _ hm _=>H.B.disj n m hn hm,fun n hn _=>H.B.mine n hn,fun n b h=>⟨(H.B.fix n b h).1,(H.B.fix n b h).2.1,fun _=>(H.B.fix n b h).2.2⟩⟩
 all:=fun _ _ _=>id
 slots:=fun t=>by
  unfold jma St.bare
  simp only [lk,jnf]
  trivial
 l:=fun t q c v h=>by cases h
 m:=by simp [St.bare]
theorem jjw {f:Nat} {args:Array Operand} {ts:Array TypeId} {zs:List DV} {xs:List DV} {v:SV} {K:Act→World→Prop} {Q:Exit→Act→World→Prop} (hC:CtxOk C) (H:Here C R G st a w p) (hs:Slots C R G st a args.toList) (ho:o.op=.call { callee:=.value (.func f),args,argTypes:=ts })
  (hr:(C.sig f).r=.sc zs) (hz:zipArgs st (C.sig f).ms (evs C st p args.toList)=some xs) (hv:scOf (C.F f xs)=(true,v))
  (hK:∀val w',Ext w w'→VRel R G st.h v val→K (a.put o.dst val) w'):o.wp C.P a w K Q:=by
 have hF:jnh C.P f:=by
  simp only [scOf,Prod.mk.injEq,Bool.and_eq_true] at hv
  exact hC.fn f xs (C.F f xs).2 (by simp [opt,hv.1.2])
 exact jbw (st:=st.bare C) (sv:=evs C st p args.toList) H.bare (jjj H.good hs) ho hF (hC.spec f) hr ((jhf (st:=st) (st':=st.bare C) rfl _ _).trans hz) hv hK

theorem Does.wp {v:SV} {K:Act→World→Prop} {Q:Exit→Act→World→Prop} (h:Does C R G st a w o v) (hK:∀val w',Ext w w'→VRel R G st.h v val→K (a.put o.dst val) w'):o.wp C.P a w K Q:=by
 obtain ⟨val,h1,h2⟩:=h
 unfold Oper.wp
 rw [h1]
 exact hK val w (Ext.refl w) h2

theorem jpv {f t:Nat} {args:Array Operand} {ts:Array TypeId} {q:Value} (hf:jnh C.P f) (ho:o.op=.call { callee:=.value (.tmp t),args,argTypes:=ts }) (hv:a.eval (.tmp t)=.func (.func f) #[q] #[]):(execOp a.eval o).run C.P w=.ok (.enter f (q :: args.toList.map a.eval).toArray) w:=by
 have harr:(q :: args.toList.map a.eval).toArray=#[q]++args.map a.eval:=by
  rw [←Array.toList_inj];simp
 rw [harr]
 simp [execOp,ho,resolve,Deferred.ofValue,hv,invoke,jyq hf]
theorem jte {v:SV} {K:Act→World→Prop} {Q:Exit→Act→World→Prop} (hC:CtxOk C) (H:Here C R G st a w p) (hs:Slots C R G st a o.op.operands.toList) (h:light C st p o.op=some (true,v))
  (hK:∀val w',Ext w w'→VRel R G st.h v val→K (a.put o.dst val) w'):o.wp C.P a w K Q:=by
 generalize hop:o.op=op at h hs
 cases op
 case call c =>
  obtain ⟨callee,args,ts⟩:=c
  simp only [light] at h
  split at h
  ·-- len
   split at h
   ·rename_i t x h1 h2
    rw [Option.map_eq_some_iff] at h
    obtain ⟨n,h3,h4⟩:=h
    cases h4
    have ha:args=#[x]:=by rw [←Array.toList_inj];simpa using h2
    have ht:ts=#[t]:=by rw [←Array.toList_inj];simpa using h1
    subst ha ht
    exact (jny H (by simpa [Op.operands,Call.operands] using hs) hop h3).wp hK
   ·cases h
  ·split at h
   ·rename_i x y h2
    split at h
    ·rename_i k m k' n h3 h4
     cases h
     have ha:args=#[x,y]:=by rw [←Array.toList_inj];simpa using h2
     subst ha
     exact (jyz H (by simpa [Op.operands,Call.operands] using hs) hop h3 h4).wp hK
    ·cases h
   ·cases h
  ·split at h
   ·rename_i x y h2
    split at h
    ·rename_i k m k' n h3 h4
     cases h
     have ha:args=#[x,y]:=by rw [←Array.toList_inj];simpa using h2
     subst ha
     exact (jwy H (by simpa [Op.operands,Call.operands] using hs) hop h3 h4).wp hK
    ·cases h
   ·cases h
  ·rename_i f
   split at h
   ·rename_i zs hr
    split at h
    ·rename_i xs hz
     simp only [Option.some.injEq] at h
     exact jjw hC H (fun t ht=>hs t (by simp [Op.operands,Call.operands];simpa using ht)) hop hr hz h hK
    ·cases h
   ·rename_i zs hr
    split at h
    ·rename_i xs hz
     simp only [Option.some.injEq] at h
     have hF:jnh C.P f:=by
      have h':=h
      simp only [epOf,Prod.mk.injEq,Bool.and_eq_true] at h'
      exact hC.fn f xs (C.F f xs).2 (by simp [opt,h'.1.2])
     exact jlw H.W (jjj H.good (fun t ht=>hs t (by simp [Op.operands,Call.operands];simpa using ht))) (by rw [jae hF hop];congr 2;rw [←Array.toList_map]) (hC.spec f) hr hz h hK
    ·cases h
   ·cases h
  ·rename_i t
   split at h
   ·rename_i f cs hgt
    unfold jro at h
    split at h
    ·rename_i sz ms zs hms hr
     split at h
     ·rename_i hcs
      split at h
      ·rename_i xs hz
       simp only [Option.some.injEq] at h
       have hF:jnh C.P f:=by
        have h':=h
        simp only [scOf,Prod.mk.injEq,Bool.and_eq_true] at h'
        exact hC.fn f (.ptr cs :: xs) (C.F f (.ptr cs :: xs)).2 (by simp [opt,h'.1.2])
       have hv:VRel R G st.h (.fb f cs) (a.eval (.tmp t)):=by
        rw [←hgt];exact jpg H.good (hs t (by simp [Op.operands,Call.operands]))
       obtain ⟨q,hq,hpv⟩:=hv
       have hvs:=jjj (C:=C) (p:=p) H.good (xs:=args.toList) (fun t ht=>hs t (by simp [Op.operands,Call.operands];exact .inr (by simpa using ht)))
       have hvals:jca R G st.h (.pv cs 0 :: evs C st p args.toList) (q :: args.toList.map a.eval):=by
        refine ⟨by simp [hvs.1],fun j x hj=>?_⟩
        cases j with
        | zero=>simp at hj;subst hj;exact ⟨q,rfl,hpv⟩
        | succ j=>simpa using hvs.2 j x (by simpa using hj)
       have hz':zipArgs st (C.sig f).ms (.pv cs 0 :: evs C st p args.toList)=some (.ptr cs :: xs):=by
        rw [hms]
        simp only [zipArgs,argOf,Nat.zero_add,hcs,Nat.le_refl,if_true,List.drop_zero,hz]
        rw [←hcs,List.take_length]
       exact jkn (st:=st.bare C) H.bare hvals (jpv hF hop hq) (hC.spec f) hr ((jhf (st:=st) (st':=st.bare C) rfl _ _).trans hz') h hK
      ·cases h
     ·cases h
    ·cases h
   ·cases h
  ·cases h
 case move x=>simp only [light] at h;cases h;exact (jcr H (by simpa [Op.operands] using hs) (.inl hop)).wp hK
 case assign x=>simp only [light] at h;cases h;exact (jcr H (by simpa [Op.operands] using hs) (.inr hop)).wp hK
 case pick c x y =>
  cases c with
  | tmp t =>
   simp only [light] at h
   split at h
   ·rename_i b1 b2 b3 h1 h2 h3
    cases h
    exact (jex H (by simpa [Op.operands] using hs) hop h1 h2 h3).wp hK
   ·rename_i b1 b2 h1 h2 h3
    cases b1 with
    | false=>cases h
    | true=>cases h;exact (jaw H (by simpa [Op.operands] using hs) hop h1 h2).wp hK
   ·rename_i b1 b2 h1 h2 h3
    cases b1 with
    | true=>cases h
    | false=>cases h;exact (jiw H (by simpa [Op.operands] using hs) hop h1 h3).wp hK
   ·cases h
  | _=>simp [light] at h
 case build t parts =>
  simp only [light] at h
  split at h
  ·rename_i fs zs ht
   rw [Option.map_eq_some_iff] at h
   obtain ⟨cs,h1,h2⟩:=h
   cases h2
   exact (jmv H (by simpa [Op.operands] using hs) hop ht h1).wp hK
  ·cases h
 case load t x =>
  have hs':Slots C R G st a [x]:=by simpa [Op.operands] using hs
  simp only [light] at h
  split at h
  ·rename_i n i off hx
   split at h
   ·rename_i e sz xs z zs hb hz
    split at h
    ·rename_i hf
     simp only [Option.some.injEq,Prod.mk.injEq,Bool.and_eq_true,decide_eq_true_eq] at h
     obtain ⟨⟨h1,h2⟩,rfl⟩:=h
     exact (jjv H hs' hop hx hb hz hf h1 h2).wp hK
    ·cases h
   ·cases h
  ·rw [Option.map_eq_some_iff] at h
   obtain ⟨r,h1,h2⟩:=h
   cases h2
   exact (jvq H hs' hop h1).wp hK
 case nilCheck x =>
  simp only [light] at h
  have hs':Slots C R G st a [x]:=by simpa [Op.operands] using hs
  split at h
  ·rename_i b cs h1
   simp only [Option.some.injEq,Prod.mk.injEq] at h
   obtain ⟨rfl,rfl⟩:=h
   have hv:VRel R G st.h (.op true cs) (a.eval x):=h1 ▸ H.ev hs' (by simp)
   have hp:=hv.1 rfl
   obtain ⟨g,o',h2,_⟩:=hp
   exact (show Does C R G st a w o (.pv cs 0) from ⟨_,by simp [execOp,hop,h2],h2 ▸ hv.1 rfl⟩).wp hK
  ·rename_i b q h1;cases h;have:=jmf H hs' hop (.inl ⟨_,_,h1⟩);rw [h1] at this;exact this.wp hK
  ·rename_i b q h1;cases h;have:=jmf H hs' hop (.inr (.inl ⟨_,_,h1⟩));rw [h1] at this;exact this.wp hK
  ·rename_i b i q h1;cases h;have:=jmf H hs' hop (.inr (.inr ⟨_,_,_,h1⟩));rw [h1] at this;exact this.wp hK
  ·cases h
 case binOp op t x y ty =>
  have hs':Slots C R G st a [x,y]:=by simpa [Op.operands] using hs
  simp only [light] at h
  split at h
  ·rename_i xs ys hx hy
   split at h
   ·rename_i ks hk
    rw [Option.map_eq_some_iff] at h
    obtain ⟨r,h1,h2⟩:=h
    cases h2
    exact (jds H hs' hop (.inl rfl) hx hy hk h1).wp hK
   ·rename_i ks hk
    rw [Option.map_eq_some_iff] at h
    obtain ⟨r,h1,h2⟩:=h
    cases h2
    exact (jds H hs' hop (.inr rfl) hx hy hk h1).wp hK
   ·cases h
  ·rw [Option.map_eq_some_iff] at h
   obtain ⟨⟨ok,d⟩,h1,h2⟩:=h
   cases h2
   exact (jpy H hs' hop h1).wp hK
 case unOp u t x =>
  have hs':Slots C R G st a [x]:=by simpa [Op.operands] using hs
  cases u<;>simp only [light] at h
  all_goals (first | (cases h;done) | skip)
  all_goals split at h
  all_goals (first | (cases h;done) | skip)
  all_goals (rename_i h1;cases h;first | exact (jty H hs' hop h1).wp hK | exact (jtz H hs' hop h1).wp hK)
 case convert s d x =>
  have hs':Slots C R G st a [x]:=by simpa [Op.operands] using hs
  simp only [light] at h
  split at h
  ·rename_i h1 h2 h3;cases h;exact (jkx H hs' hop h1 h2 h3).wp hK
  ·rename_i e n h1 h2 h3
   split at h
   ·rename_i e' xs h4 h5
    split at h
    ·cases h
    rename_i hwk
    simp only [Option.some.injEq,Prod.mk.injEq] at h
    obtain ⟨h6,rfl⟩:=h
    exact (jkv H hs' hop h1 h2 h4 h3 hwk h5 h6).wp hK
   ·cases h
  ·cases h
 case slice t x lo hi mx =>
  cases mx with
  | some m=>simp [light] at h
  | none =>
   simp only [light] at h
   have key:∀{d r:D} {l0:Option Int} {h:Option Int},ev C st p x=.d d→ivOf C st p lo=some l0→ivOf C st p hi=some h→sliceD (zsOf C t) d (l0.getD 0) h=some (true,r)→Does C R G st a w o (.d r):=by
    intro d r l0 h hd hl hh hr
    cases hz:zsOf C t with
    | none=>rw [hz] at hr;simp [sliceD] at hr
    | some zo =>
     rw [hz] at hr
     refine jcv H hs (by simp [Op.operands]) (fun y hy=>?_) (fun y hy=>?_) hop hz hd hl rfl hh hr
     ·subst hy;simp [Op.operands]
     ·subst hy;simp [Op.operands]
   split at h
   ·rename_i d h1 h2 h3
    rw [Option.map_eq_some_iff] at h
    obtain ⟨⟨ok,r⟩,h4,h5⟩:=h
    cases h5
    refine (key h1 (l0:=none) (h:=none) ?_ ?_ h4).wp hK
    ·cases lo<;>first | rfl | simp at h2
    ·cases hi<;>first | rfl | simp at h3
   ·rename_i d k l h1 h2 h3
    rw [Option.map_eq_some_iff] at h
    obtain ⟨⟨ok,r⟩,h4,h5⟩:=h
    cases h5
    refine (key h1 (l0:=some l) (h:=none) ?_ ?_ h4).wp hK
    ·cases lo<;>simp at h2 ⊢;simp [ivOf,h2]
    ·cases hi<;>first | rfl | simp at h3
   ·rename_i d k l h1 h2 h3
    rw [Option.map_eq_some_iff] at h
    obtain ⟨⟨ok,r⟩,h4,h5⟩:=h
    cases h5
    refine (key h1 (l0:=none) (h:=some l) ?_ ?_ h4).wp hK
    ·cases lo<;>first | rfl | simp at h2
    ·cases hi<;>simp at h3 ⊢;simp [ivOf,h3]
   ·rename_i d k l k' l' h1 h2 h3
    rw [Option.map_eq_some_iff] at h
    obtain ⟨⟨ok,r⟩,h4,h5⟩:=h
    cases h5
    refine (key h1 (l0:=some l) (h:=some l') ?_ ?_ h4).wp hK
    ·cases lo<;>simp at h2 ⊢;simp [ivOf,h2]
    ·cases hi<;>simp at h3 ⊢;simp [ivOf,h3]
   ·rename_i n k l h1 h2 h3
    split at h
    ·rename_i zs e sz xs hz hrow
     simp only [Option.some.injEq,Prod.mk.injEq,decide_eq_true_eq] at h
     obtain ⟨⟨h4,h5⟩,rfl⟩:=h
     cases lo with
     | some y=>simp at h2
     | none =>
      cases hi with
      | none=>simp at h3
      | some y =>
       simp only [Option.map_some,Option.some.injEq] at h3
       exact (does_view H (by simpa [Op.operands] using hs) hop hz h1 h3 hrow h4 h5).wp hK
    ·cases h
   ·cases h
 case fieldAddr t x f =>
  have hs':Slots C R G st a [x]:=by simpa [Op.operands] using hs
  simp only [light] at h
  split at h
  ·rename_i q hq
   obtain ⟨k1,k2,k3⟩:=jdp H hs' hop hq
   split at h
   ·rename_i h1;cases h;exact (k1 _ _ h1).wp hK
   ·rename_i h1;cases h;exact (k2 _ _ h1).wp hK
   ·rename_i h1;cases h;exact (k3 _ _ _ h1).wp hK
   ·cases h
  ·cases h
 case field t x f =>
  have hs':Slots C R G st a [x]:=by simpa [Op.operands] using hs
  simp only [light] at h
  split at h
  ·rename_i hf
   split at h
   ·rename_i q cs h1 h2
    rw [Option.map_eq_some_iff] at h
    obtain ⟨r,h3,h4⟩:=h
    cases h4
    exact (jfw H hs' hop h1 hf h2 h3).wp hK
   ·cases h
  ·split at h
   ·rename_i sz q cs hf h1 h2
    split at h
    ·rename_i hr
     cases h
     exact (does_fieldA H hs' hop h1 hf h2 hr).wp hK
    ·cases h
   ·cases h
 case indexAddr t x y =>
  have hs':Slots C R G st a [x,y]:=by simpa [Op.operands] using hs
  simp only [light] at h
  split at h
  ·rename_i el ht
   split at h
   ·rename_i zs hz
    split at h
    ·rename_i xs k n h1 h2
     simp only [Option.some.injEq,Prod.mk.injEq,Bool.and_eq_true,decide_eq_true_eq] at h
     obtain ⟨⟨⟨h3,h4⟩,h5⟩,rfl⟩:=h
     obtain ⟨h6,h7⟩:=jjz h5
     rw [h6] at hK
     exact ((jmi H hs' hop ht hz h2).1 xs h1 h3 h4 h7).wp hK
    ·rename_i b k n h1 h2
     split at h
     ·rename_i e sz xs hb
      split at h
      ·rename_i hsz
       simp only [Option.some.injEq,Prod.mk.injEq,Bool.and_eq_true,decide_eq_true_eq] at h
       obtain ⟨⟨h3,h4⟩,rfl⟩:=h
       exact ((jmi H hs' hop ht hz h2).2 b e sz xs h1 hb hsz h3 h4).wp hK
      ·cases h
     ·cases h
    ·cases h
   ·cases h
  ·cases h
 case index t x y =>
  have hs':Slots C R G st a [x,y]:=by simpa [Op.operands] using hs
  simp only [light] at h
  split at h
  ·rename_i s k n h1 h2 h3
   simp only [Option.some.injEq,Prod.mk.injEq,decide_eq_true_eq] at h
   obtain ⟨⟨h4,h5⟩,rfl⟩:=h
   exact (jkw h1 H hs' hop h2 h3 h4 h5).wp hK
  ·cases h
 case extract x i =>
  have hs':Slots C R G st a [x]:=by simpa [Op.operands] using hs
  simp only [light] at h
  split at h
  ·rename_i vs h1
   rw [Option.map_eq_some_iff] at h
   obtain ⟨r,h2,h3⟩:=h
   cases h3
   exact (jnt H hs' hop h1 h2).wp hK
  ·cases h
 case makeFunc fn fs cap =>
  cases fn with
  | func f =>
   simp only [light] at h
   split at h
   ·rename_i x hfs hcap
    split at h
    ·rename_i n off h1
     cases h
     have hf:fs=#[x]:=by rw [←Array.toList_inj];simpa using hfs
     have hc:cap=#[]:=by rw [←Array.toList_inj];simpa using hcap
     subst hf hc
     have hv:VRel R G st.h (.ptr n off) (a.eval x):=h1 ▸ H.ev hs (by simp [Op.operands])
     exact (show Does C R G st a w o (.fp f n off) from ⟨.func (.func f) #[a.eval x] #[],by simp [execOp,hop,Instr.makeFunc],hv.1,by rw [hv.2]⟩).wp hK
    ·cases h
   ·cases h
  | _=>simp [light] at h
 all_goals (simp [light] at h)
end Go.Den

/- Rows as flat lists of cells; what is given away into a row. -/
namespace Go.Den
open Go

def Els (w:World) (φ:Nat→Prop) (ds:List D) (us:List Value):Prop :=
 ds.length=us.length∧∃ψ:Nat→Nat→Prop,(∀j k,ψ j k→φ k)∧(∀j j' k,ψ j k→ψ j' k→j=j')∧∀(j:Nat) d u,ds[j]? = some d→us[j]? = some u→OwnD w (ψ j) d u
variable {w w':World} {φ φ':Nat→Prop} {ds es:List D} {us vs:List Value}
theorem Els.nil (w:World) (φ:Nat→Prop):Els w φ [] []:=⟨rfl,fun _ _=>False,fun _ _ h=>h.elim,fun _ _ _ h=>h.elim,fun j d u h=>by simp at h⟩
theorem Els.mono (H:Els w φ ds us) (hφ:∀k,φ k→φ' k) (hw:∀k,φ k→w'.heap[k]? = w.heap[k]?):Els w' φ' ds us:=by
 obtain ⟨h1,ψ,h2,h3,h4⟩:=H
 exact ⟨h1,ψ,fun j k h=>hφ k (h2 j k h),h3,fun j d u a b=>(h4 j d u a b).mono (fun _ h=>h) (fun k hk=>hw k (h2 j k hk))⟩
theorem Els.one (H:Els w φ ds us):∀u∈us,u.oneCell'=true:=by
 obtain ⟨h1,ψ,h2,h3,h4⟩:=H
 intro u hu
 obtain ⟨j,hj⟩:=List.getElem?_of_mem hu
 have hlt:j < us.length:=(List.getElem?_eq_some_iff.1 hj).1
 exact (h4 j ds[j] u (List.getElem?_eq_getElem (by omega)) hj).one
theorem Els.append (H:Els w φ ds us) (K:Els w φ' es vs) (hd:∀k,φ k→φ' k→False):Els w (fun k=>φ k∨φ' k) (ds++es) (us++vs):=by
 obtain ⟨h1,ψ,h2,h3,h4⟩:=H
 obtain ⟨k1,χ,k2,k3,k4⟩:=K
 refine ⟨by simp [h1,k1],fun j=>if j < ds.length then ψ j else χ (j - ds.length),fun j k h=>?_,fun j j' k h h'=>?_,fun j d u a b=>?_⟩
 ·dsimp only at h
  split at h
  ·exact .inl (h2 _ _ h)
  ·exact .inr (k2 _ _ h)
 ·dsimp only at h h'
  split at h<;>split at h'
  ·exact h3 _ _ _ h h'
  ·exact (hd k (h2 _ _ h) (k2 _ _ h')).elim
  ·exact (hd k (h2 _ _ h') (k2 _ _ h)).elim
  ·have:=k3 _ _ _ h h';omega
 ·dsimp only
  split
  ·rename_i hj
   rw [List.getElem?_append_left hj] at a
   rw [List.getElem?_append_left (by omega)] at b
   exact h4 j d u a b
  ·rename_i hj
   rw [List.getElem?_append_right (by omega)] at a
   rw [List.getElem?_append_right (by omega),←h1] at b
   exact k4 _ d u a b
theorem Els.take (H:Els w φ ds us) (n:Nat):Els w φ (ds.take n) (us.take n):=by
 obtain ⟨h1,ψ,h2,h3,h4⟩:=H
 refine ⟨by simp [h1],ψ,h2,h3,fun j d u a b=>?_⟩
 rw [List.getElem?_take] at a b
 split at a
 ·rename_i hj
  rw [if_pos hj] at b
  exact h4 j d u a b
 ·cases a
theorem Els.drop (H:Els w φ ds us) (n:Nat):Els w φ (ds.drop n) (us.drop n):=by
 obtain ⟨h1,ψ,h2,h3,h4⟩:=H
 refine ⟨by simp [h1],fun j=>ψ (n+j),fun j k h=>h2 _ k h,fun j j' k h h'=>by have:=h3 _ _ _ h h';omega,fun j d u a b=>?_⟩
 rw [List.getElem?_drop] at a b
 exact h4 _ d u a b
theorem Els.single {d:D} {u:Value} (h:OwnD w φ d u):Els w φ [d] [u] :=
 ⟨rfl,fun j k=>j=0∧φ k,fun _ _ h=>h.2,fun j j' k h h'=>by omega,fun j d' u' a b=>by
  cases j with
  | zero=>simp at a b;subst a b;exact h.mono (fun k hk=>⟨rfl,hk⟩) (fun _ _=>rfl)
  | succ j=>simp at a⟩
theorem Els.cons {d:D} {u:Value} (h:OwnD w φ d u) (K:Els w φ' es vs) (hd:∀k,φ k→φ' k→False):Els w (fun k=>φ k∨φ' k) (d :: es) (u :: vs) :=
 (Els.single h).append K hd
theorem Els.flat (h1:ds.length=us.length) (h:∀(j:Nat) d u,ds[j]? = some d→us[j]? = some u→OwnD w (fun _=>False) d u):Els w (fun _=>False) ds us :=
 ⟨h1,fun _ _=>False,fun _ _ h=>h,fun _ _ _ h=>h.elim,h⟩

/-! rows, flat -/
theorem jqa {sz:Nat}:∀{xs:List (List D)},(∀r∈xs,r.length=sz)→xs.flatten.length=xs.length * sz∧∀i j,j < sz→xs.flatten[i * sz+j]? = (xs[i]?).bind fun r=>r[j]?
 | [],_=>by simp
 | x :: xs,h=>by
  obtain ⟨h1,h2⟩:=jqa (xs:=xs) (sz:=sz) (fun r hr=>h r (by simp [hr]))
  have hx:x.length=sz:=h x (by simp)
  refine ⟨by simp [h1,hx,Nat.add_mul,Nat.add_comm],fun i j hj=>?_⟩
  simp only [List.flatten_cons]
  cases i with
  | zero=>rw [List.getElem?_append_left (by simp;omega)];simp
  | succ i =>
   rw [List.getElem?_append_right (by rw [hx,Nat.add_mul];omega),hx,show (i+1) * sz+j - sz=i * sz+j by rw [Nat.add_mul];omega,h2 i j hj]
   simp
theorem RowR.els {e sz:Nat} {φ:Nat→Prop} {xs:List (List D)} {v:Value} (h0:0 < sz) (h:RowR w e sz φ xs v) :
  (v=.slice none 0 0∧xs=[])∨∃(g o cap t:Nat) (cur:Array Value),v=.slice (some ⟨g,o,none⟩) xs.length cap∧w.heap[g]? = some (.cells cur t (0,0))∧φ g∧xs.length≤cap∧o+cap * sz≤cur.size∧(∀r∈xs,r.length=sz) ∧
   Els w (fun k=>φ k∧k≠g) xs.flatten ((cur.toList.drop o).take (xs.length * sz)):=by
 rcases h with h | ⟨g,o,cap,t,cur,val,ψ,rfl,hg,hφ,hcap,hcur,hsz,hc,hψ,hd,hr⟩
 ·exact .inl h
 ·refine .inr ⟨g,o,cap,t,cur,rfl,hg,hφ,hcap,hcur,hsz,?_⟩
  obtain ⟨f1,f2⟩:=jqa hsz
  have hmul:xs.length * sz≤cap * sz:=Nat.mul_le_mul_right _ hcap
  refine ⟨by simp [f1];omega,fun j=>ψ (j / sz) (j % sz),fun j k h=>hψ _ _ _ h,fun j j' k h h'=>?_,fun j d u a b=>?_⟩
  ·obtain ⟨e1,e2⟩:=hd _ _ _ _ _ h h'
   have h3:=Nat.div_add_mod j sz
   have h4:=Nat.div_add_mod j' sz
   rw [e1,e2] at h3
   omega
  ·have hj:j=j / sz * sz+j % sz:=by have:=Nat.div_add_mod j sz;rw [Nat.mul_comm] at this;omega
   have hm:j % sz < sz:=Nat.mod_lt _ h0
   rw [hj,f2 _ _ hm,Option.bind_eq_some_iff] at a
   obtain ⟨r,a1,a2⟩:=a
   have:=hc _ _ _ _ a1 a2
   rw [List.getElem?_take] at b
   split at b
   ·rw [List.getElem?_drop,Array.getElem?_toList] at b
    rw [Nat.add_assoc,←hj,b] at this
    cases this
    exact hr _ _ _ _ a1 a2
   ·cases b
theorem RowR.mk {e sz:Nat} {φ:Nat→Prop} {xs:List (List D)} {g o cap t:Nat} {cur:Array Value} (h0:0 < sz) (hg:w.heap[g]? = some (.cells cur t (0,0))) (hφ:φ g) (hcap:xs.length≤cap) (hcur:o+cap * sz≤cur.size) (hsz:∀r∈xs,r.length=sz)
  (hE:Els w (fun k=>φ k∧k≠g) xs.flatten ((cur.toList.drop o).take (xs.length * sz))):RowR w e sz φ xs (.slice (some ⟨g,o,none⟩) xs.length cap):=by
 obtain ⟨h1,ψ,h2,h3,h4⟩:=hE
 obtain ⟨f1,f2⟩:=jqa hsz
 have hmul:xs.length * sz≤cap * sz:=Nat.mul_le_mul_right _ hcap
 have inn:∀{i j:Nat} {r:List D} {d:D},xs[i]? = some r→r[j]? = some d→j < sz∧i * sz+j < xs.length * sz:=by
  intro i j r d h5 h6
  have hi:i < xs.length:=(List.getElem?_eq_some_iff.1 h5).1
  have hj:j < r.length:=(List.getElem?_eq_some_iff.1 h6).1
  rw [hsz r (List.mem_of_getElem? h5)] at hj
  have:(i+1) * sz≤xs.length * sz:=Nat.mul_le_mul_right _ hi
  rw [Nat.add_mul] at this
  exact ⟨hj,by omega⟩
 refine .inr ⟨g,o,cap,t,cur,fun i j=>cur.getD (o+i * sz+j) undef,fun i j k=>j < sz∧ψ (i * sz+j) k,rfl,hg,hφ,hcap,hcur,hsz,?_,?_,?_,?_⟩
 ·intro i r j d h5 h6
  obtain ⟨h7,h8⟩:=inn h5 h6
  have:o+i * sz+j < cur.size:=by omega
  simp [this]
 ·intro i j k hk
  exact h2 _ _ hk.2
 ·intro i j i' j' k hk hk'
  have h5:=h3 _ _ _ hk.2 hk'.2
  have h6:(i * sz+j) / sz=i:=by rw [Nat.mul_comm,Nat.mul_add_div h0,Nat.div_eq_of_lt hk.1];omega
  have h7:(i' * sz+j') / sz=i':=by rw [Nat.mul_comm,Nat.mul_add_div h0,Nat.div_eq_of_lt hk'.1];omega
  rw [h5] at h6
  have h8:i=i':=by omega
  subst h8
  exact ⟨rfl,by omega⟩
 ·intro i r j d h5 h6
  obtain ⟨h7,h8⟩:=inn h5 h6
  refine (h4 (i * sz+j) d _ (by rw [f2 i j h7,h5];simpa using h6) (by rw [List.getElem?_take,if_pos h8,List.getElem?_drop,Array.getElem?_toList,←Nat.add_assoc];simp [show o+i * sz+j < cur.size by omega])).mono (fun k hk=>⟨h7,hk⟩) (fun _ _=>rfl)

variable {C:Ctx} {R:Rt} {G G0:Gh} {st:St} {a:Act}
theorem own_sc {T:Nat→Prop} {w0:World} {d:D} {u:Value} (hs:isSc d=true) (h:Rep w0 T d u):OwnD w φ d u:=by
 cases h with
 | b x=>exact .b _ _
 | i k n=>exact .i _ _ _
 | s x=>exact .s _ _
 | nil A cap=>cases hs
 | l=>cases hs
theorem jze {S:Nat→Prop} {h0:List (Nat × Blk)}:∀(vs:List SV) (us:List Value) (st:St) (G:Gh) (ds:List D) (st':St),InvS S C R G st a w→Gle G G0→Has G0 h0 G st.h→jla R G0 h0 vs us→takes st vs=some (ds,st') →
  ∃G' θ,InvS S C R G' st' a w∧Gle G' G∧Has G0 h0 G' st'.h∧Els w θ ds us∧(∀k,θ k→k < w.heap.size∧(R.L k∨R.w0.heap.size≤k)∧∀lo hi,¬ R.LB k lo hi)∧(∀k,θ k→∃n,(G.live n∧¬ S n)∧G.φ n k)∧(∀k n,θ k→G'.live n→¬ S n→G'.φ n k→False)∧Fr G st.h G' st'.h
 | [],us,st,G,ds,st',H,hG,hH,hu,h=>by
  simp only [takes,Option.some.injEq,Prod.mk.injEq] at h
  obtain ⟨rfl,rfl⟩:=h
  have:us=[]:=List.eq_nil_of_length_eq_zero (by simpa using hu.1)
  subst this
  exact ⟨G,fun _=>False,H,Gle.refl G,hH,Els.nil _ _,fun _ h=>h.elim,fun _ h=>h.elim,fun _ _ h=>h.elim,Fr.refl _ _⟩
 | v :: vs,us,st,G,ds,st',H,hG,hH,hu,h=>by
  obtain ⟨u,us',rfl,h1,h2,hu'⟩:=hu.tail
  simp only [takes] at h
  split at h
  ·rename_i x st1 h3
   split at h
   ·rename_i xs st2 h4
    cases h
    have plain:st1=st→OwnD w (fun _=>False) x u→∃G' θ,InvS S C R G' st' a w∧Gle G' G∧Has G0 h0 G' st'.h∧Els w θ (x :: xs) (u :: us')∧(∀k,θ k→k < w.heap.size∧(R.L k∨R.w0.heap.size≤k)∧∀lo hi,¬ R.LB k lo hi)∧(∀k,θ k→∃n,(G.live n∧¬ S n)∧G.φ n k)∧(∀k n,θ k→G'.live n→¬ S n→G'.φ n k→False)∧Fr G st.h G' st'.h:=by
     intro e hx
     subst e
     obtain ⟨G',θ,i1,i2,i3,i4,i5,i6,i7,i8⟩:=jze vs us' _ G xs st' H hG hH hu' h4
     refine ⟨G',fun k=>False∨θ k,i1,i2,i3,Els.cons hx i4 (fun k h=>h.elim),?_,?_,?_,i8⟩
     ·rintro k (hk | hk);exact hk.elim;exact i5 k hk
     ·rintro k (hk | hk);exact hk.elim;exact i6 k hk
     ·rintro k n (hk | hk);exact hk.elim;exact i7 k n hk
    unfold take1 at h3
    split at h3
    ·split at h3
     ·rename_i hsc
      cases h3
      exact plain rfl (own_sc hsc h2)
     ·cases h3
    ·cases h3
     rw [show u=.slice none 0 0 from h2] at plain ⊢
     exact plain rfl (.nil _)
    ·rename_i n
     split at h3
     ·rename_i e sz rows hrow
      split at h3
      ·cases h3
      rename_i hwk
      cases h3
      have hS:=H.all n _ hrow
      have hlive:G.live n:=hH.live h2.1 hrow
      obtain ⟨b,hb,hbr⟩:=H.B.rel n hlive hS
      rw [hrow] at hb;cases hb
      obtain ⟨r1,r2,r3,r4⟩:=hbr
      obtain ⟨G',θ,i1,i2,i3,i4,i5,i6,i7,i8⟩:=jze vs us' (st.give n) (G.drop n) xs st' (jch H hrow) (hG.drop n) hH.give hu' h4
      have hu0:u=G.hv n:=by rw [hG.2.2.1];exact h2.2.1
      refine ⟨G',fun k=>G.φ n k∨θ k,i1,i2.trans ((Gle.refl G).drop n),i3,Els.cons (by rw [hu0];exact (r1.row hwk).own) i4 (fun k hk hk'=>?_),?_,?_,?_,(jyl hlive).trans i8⟩
      ·obtain ⟨m,m1,m2⟩:=i6 k hk'
       exact H.B.disj n m hlive hS m1.1.1 m1.2 (Ne.symm m1.1.2) k hk m2
      ·rintro k (hk | hk)
       ·obtain ⟨m1,m2⟩:=H.B.mine n hlive hS k hk;exact ⟨m1,m2,fun lo hi=>r4 k lo hi hk⟩
       ·exact i5 k hk
      ·rintro k (hk | hk)
       ·exact ⟨n,⟨hlive,hS⟩,hk⟩
       ·obtain ⟨m,m1,m2⟩:=i6 k hk;exact ⟨m,⟨m1.1.1,m1.2⟩,m2⟩
      ·rintro k m (hk | hk) hm hmS hφ
       ·have hm':=i2.1 m hm
        rw [i2.2.2.2] at hφ
        exact H.B.disj n m hlive hS hm'.1 hmS (Ne.symm hm'.2) k hk hφ
       ·exact i7 k m hk hm hmS hφ
     ·cases h3
    ·cases h3
   ·cases h
  ·cases h
end Go.Den

/- What an operation that makes or changes memory does to the invariant. -/
namespace Go.Den
open Go
variable {C:Ctx} {R:Rt} {G G0:Gh} {st st1:St} {a:Act} {w w':World}

theorem jid {n:Nat} {b:Blk} (h:adds st [(n,b)]=some st1):hlk st.h n=none∧st1={ st with h:=st.h++[(n,b)] }:=by
 simp only [adds] at h
 split at h
 ·cases h
 ·rename_i h1;cases h;exact ⟨h1,rfl⟩
theorem jjg (H:WInv R w) {k lo hi:Nat} (h:R.LB k lo hi):k < R.w0.heap.size:=by
 obtain ⟨cur,cur0,e,fz,h1,_⟩:=H.out k lo hi h
 exact (Array.getElem?_eq_some_iff.1 h1).1

theorem new_inv {n:Nat} {b:Nat × Nat} {v:Value} {ψ:Nat→Prop} {x:Blk} (H:Inv C R G st a w) (he:Ext w w') (hn:hlk st.h n=none) (hψ:∀k,ψ k→w.heap.size≤k∧k < w'.heap.size)
  (hb:BRel R (G.add n b v ψ) (st.h++[(n,x)]) C.P w' n x):Inv C R (G.add n b v ψ) { st with h:=st.h++[(n,x)] } a w' :=
 jeg (jtc H he) hn id (fun k hk=>⟨(hψ k hk).2,.inr (Nat.le_trans H.W.size (hψ k hk).1)⟩)
  (fun k m hk hm hmS hφ=>by have:=(H.B.mine m hm hmS k hφ).1;have:=(hψ k hk).1;omega) hb
theorem jku {n:Nat} {cs:List SV} {cur:Array Value} {e:TypeId} (H:Inv C R G st a w) (he:Ext w w') (hn:hlk st.h n=none) (hg:w'.heap[w.heap.size]? = some (.cells cur e (0,0))) (hs:w'.heap.size=w.heap.size+1) (hl:cs.length≤cur.size)
  (hc:∀(j:Nat) x,cs[j]? = some x→∃u,cur[j]? = some u∧u.oneCell'=true∧CRel R G st.h x u) :
  Inv C R (G.add n (w.heap.size,0) undef (·=w.heap.size)) { st with h:=st.h++[(n,.box cs)] } a w'∧VRel R (G.add n (w.heap.size,0) undef (·=w.heap.size)) (st.h++[(n,.box cs)]) (.ptr n 0) (.pointer (some ⟨w.heap.size,0,none⟩)):=by
 have hnl:¬ G.live n:=fun h=>by obtain ⟨b,hb,_⟩:=H.B.rel n h id;rw [hn] at hb;cases hb
 refine ⟨new_inv H he hn (fun k hk=>⟨by rw [hk];exact Nat.le_refl _,by rw [hk,hs];omega⟩) ⟨cur,e,?_,?_,?_,?_,?_⟩,.inr rfl,by simp [Gh.add]⟩
 ·simp [Gh.add,hg]
 ·simp [Gh.add]
 ·intro lo hi hlb
  simp only [Gh.add,if_true] at hlb
  have:=jjg H.W hlb
  have:=H.W.size
  omega
 ·simpa [Gh.add] using hl
 ·intro j x hj
  obtain ⟨u,h1,h2,h3⟩:=hc j x hj
  exact ⟨u,by simpa [Gh.add] using h1,h2,jea (fun k _=>joe hnl _ _ _ _ k) h3⟩

structure Rewr (w w':World) (g:Nat) (cur cur':Array Value) (e:TypeId):Prop where
 os:w'.os=w.os
 tape:w'.tape=w.tape
 output:w'.output=w.output
 size:w'.heap.size=w.heap.size
 was:w.heap[g]? = some (.cells cur e (0,0))
 now:w'.heap[g]? = some (.cells cur' e (0,0))
 len:cur'.size=cur.size
 old:∀k,k≠g→w'.heap[k]? = w.heap[k]?
theorem jxh {g:Nat} {cur cur':Array Value} {e:TypeId} (h:w.heap[g]? = some (.cells cur e (0,0))) (hl:cur'.size=cur.size):Rewr w (w.setRow g cur') g cur cur' e :=
 ⟨rfl,rfl,rfl,by simp,h,setRow_heap w g cur _ e _ h,hl,fun k hk=>setRow_other w g k _ hk⟩
theorem Rewr.winv {g:Nat} {cur cur':Array Value} {e:TypeId} (H:WInv R w) (hr:Rewr w w' g cur cur' e) (hg:R.L g∨R.w0.heap.size≤g) (hlb:∀lo hi,R.LB g lo hi→∀o,(o < lo∨hi≤o)→cur'[o]? = cur[o]?):WInv R w' where
 os:=hr.os.trans H.os
 tape:=hr.tape.trans H.tape
 output:=hr.output.trans H.output
 size:=by rw [hr.size];exact H.size
 T:=H.T
 old:=fun k hk hL=>by
  have hkg:k≠g:=fun e=>by subst e;rcases hg with hg | hg;exact hL hg;omega
  rw [hr.old k hkg];exact H.old k hk hL
 out:=fun k lo hi h=>by
  obtain ⟨c,c0,e',fz,h1,h2,h3,h4⟩:=H.out k lo hi h
  by_cases hkg:k=g
  ·subst hkg
   rw [hr.was] at h2;cases h2
   exact ⟨cur',c0,e,(0,0),h1,hr.now,by rw [hr.len];exact h3,fun o ho=>(hlb lo hi h o ho).trans (h4 o ho)⟩
  ·exact ⟨c,c0,e',fz,h1,by rw [hr.old k hkg];exact h2,h3,h4⟩
theorem jkq {n:Nat} {cs cs':List SV} {h:List (Nat × Blk)} (hb:hlk h n=some (.box cs)):∀k,Same G h G (hset h n (.box cs')) k:=fun k hk =>
 ⟨hk,rfl,rfl,fun e sz xs hx=>⟨xs,by rw [jga,if_neg (fun e=>by subst e;rw [hb] at hx;cases hx)];exact hx⟩⟩
theorem jiu {n:Nat} {cs cs':List SV} {cur cur':Array Value} {e:TypeId} (H:Inv C R G st a w) (hl:G.live n) (hb:hlk st.h n=some (.box cs)) (hr:Rewr w w' (G.base n).1 cur cur' e) (hlen:cs'.length=cs.length)
  (hout:∀o,(o < (G.base n).2∨(G.base n).2+cs.length≤o)→cur'[o]? = cur[o]?)
  (hc:∀(j:Nat) x,cs'[j]? = some x→∃u,cur'[(G.base n).2+j]? = some u∧u.oneCell'=true∧CRel R G st.h x u) :
  Inv C R G { st with h:=hset st.h n (.box cs') } a w'∧(∀k,Same G st.h G (hset st.h n (.box cs')) k)∧Fr G st.h G (hset st.h n (.box cs')):=by
 have hs:=jkq (G:=G) (cs':=cs') hb
 obtain ⟨b,hb',hbr⟩:=H.B.rel n hl id
 rw [hb] at hb';cases hb'
 obtain ⟨c0,e0,r1,r2,r3,r4,r5⟩:=hbr
 refine ⟨⟨hr.winv H.W (H.B.mine n hl id _ r2).2 (fun lo hi h o ho=>hout o ?_),⟨fun k hk _=>?_,fun k m hk _ hm _=>H.B.disj k m hk id hm id,fun k hk _ j hj=>⟨by rw [hr.size];exact (H.B.mine k hk id j hj).1,(H.B.mine k hk id j hj).2⟩,fun k b' hf=>?_⟩,fun _ _ _=>id,fun t=>jib hs (H.slots t),H.l,H.m⟩,hs,fun m xs ⟨h1,h2,h3⟩=>?_⟩
 ·obtain ⟨h1,h2⟩:=r3 lo hi h
  omega
 ·by_cases hkn:k=n
  ·subst hkn
   refine ⟨.box cs',by simp [jga],cur',e,hr.now,r2,by rw [hlen];exact r3,?_,fun j x hj=>?_⟩
   ·rw [hlen,hr.len]
    have:=hr.was;rw [r1] at this;cases this;exact r4
   ·obtain ⟨u,h1,h2,h3⟩:=hc j x hj
    exact ⟨u,h1,h2,jea (fun k _=>hs k) h3⟩
  ·obtain ⟨b,h1,h2⟩:=H.B.rel k hk id
   refine ⟨b,by simp [jga,hkn,h1],jhb hs rfl rfl rfl (jge (fun j hj=>hr.old j (fun e=>?_)) h2)⟩
   subst e
   exact H.B.disj k n hk id hl id hkn _ hj r2
 ·obtain ⟨h1,h2,h3⟩:=H.B.fix k b' hf
  refine ⟨h1,h2,fun _=>?_⟩
  obtain ⟨ds,hc⟩:=h3 id
  by_cases hkn:k=n
  ·subst hkn;exact ⟨cs',by simp [jga]⟩
  ·exact ⟨ds,by simp [jga,hkn,hc]⟩
 ·refine ⟨h1,?_,h3⟩
  rw [jga,if_neg (show ¬ m=n from fun e=>h1 (by rw [e];exact hl))]
  exact h2

def Gh.turn (G:Gh) (n:Nat) (v:Value) (ψ:Nat→Prop):Gh:={ G with hv:=fun k=>if k=n then v else G.hv k,φ:=fun k=>if k=n then ψ else G.φ k }
theorem jsg (n k:Nat) (x:Blk):hlk (hset (killH n st.h) n x) k=if k=n then some x else (hlk st.h k).map (killB n):=by
 rw [jga,jld]
theorem jzr {n:Nat} {e sz:Nat} {xs xs':List (List D)} {v:Value} {ψ:Nat→Prop} (H:Inv C R G st a w) (hl:G.live n) (hb:hlk st.h n=some (.row e sz xs)) (hW:WInv R w') (hs:w.heap.size≤w'.heap.size)
  (hw:∀m,G.live m→m≠n→∀k,G.φ m k→w'.heap[k]? = w.heap[k]?) (hrow:RowR w' e sz ψ xs' v) (hψ:∀k,ψ k→k < w'.heap.size∧(R.L k∨R.w0.heap.size≤k)∧∀lo hi,¬ R.LB k lo hi) (hd:∀k m,ψ k→G.live m→m≠n→G.φ m k→False) :
  Inv C R (G.turn n v ψ) { kill st n with h:=hset (killH n st.h) n (.row e sz xs') } a w'∧VRel R (G.turn n v ψ) (hset (killH n st.h) n (.row e sz xs')) (.own n) v∧Fr G st.h (G.turn n v ψ) (hset (killH n st.h) n (.row e sz xs')):=by
 have hsm:∀k,k≠n→Same G st.h (G.turn n v ψ) (hset (killH n st.h) n (.row e sz xs')) k:=fun k hk hlk' =>
  ⟨hlk',rfl,by simp [Gh.turn,hk],fun e' sz' ys hx=>⟨ys,by rw [jsg,if_neg hk,hx];rfl⟩⟩
 obtain ⟨b,hb',hbr⟩:=H.B.rel n hl id
 rw [hb] at hb';cases hb'
 refine ⟨⟨hW,⟨fun k hk _=>?_,fun k m hk _ hm _ hkm j hj1 hj2=>?_,fun k hk _ j hj=>?_,fun k b' hf=>?_⟩,fun _ _ _=>id,fun t=>jtp hsm (H.slots t),jnu H.l,by simp only [kill,jph];exact H.m⟩,⟨hl,by simp [Gh.turn],hrow.own.one⟩,fun m cs ⟨h1,h2,h3⟩=>?_⟩
 ·by_cases hkn:k=n
  ·subst hkn
   exact ⟨.row e sz xs',by show hlk (hset (killH k st.h) k _) k=_;rw [jsg,if_pos rfl],by simpa [Gh.turn] using hrow.x,hbr.2.1,hbr.2.2.1,fun j lo hi hj=>by simp only [Gh.turn,if_true] at hj;exact (hψ j hj).2.2 lo hi⟩
  ·obtain ⟨b,h1,h2⟩:=H.B.rel k hk id
   exact ⟨killB n b,by show hlk (hset (killH n st.h) n _) k=_;rw [jsg,if_neg hkn,h1];rfl,jrq hsm (by simp [Gh.turn,hkn]) rfl (by simp [Gh.turn,hkn]) (jge (hw k hk hkn) h2)⟩
 ·simp only [Gh.turn] at hj1 hj2
  by_cases hk':k=n
  ·subst hk'
   rw [if_pos rfl] at hj1
   rw [if_neg (Ne.symm hkm)] at hj2
   exact hd j m hj1 hm (Ne.symm hkm) hj2
  ·rw [if_neg hk'] at hj1
   by_cases hm':m=n
   ·subst hm'
    rw [if_pos rfl] at hj2
    exact hd j k hj2 hk hk' hj1
   ·rw [if_neg hm'] at hj2
    exact H.B.disj k m hk id hm id hkm j hj1 hj2
 ·simp only [Gh.turn] at hj
  by_cases hk':k=n
  ·rw [if_pos hk'] at hj;exact ⟨(hψ j hj).1,(hψ j hj).2.1⟩
  ·rw [if_neg hk'] at hj;exact ⟨Nat.lt_of_lt_of_le (H.B.mine k hk id j hj).1 hs,(H.B.mine k hk id j hj).2⟩
 ·obtain ⟨h1,h2,h3⟩:=H.B.fix k b' hf
  obtain ⟨ds,hc⟩:=h3 id
  have hkn:k≠n:=fun e=>by subst e;rw [hb] at hc;cases hc
  exact ⟨h1,h2,fun _=>⟨_,by show hlk (hset (killH n st.h) n _) k=_;rw [jsg,if_neg hkn,hc];rfl⟩⟩
 ·have hmn:m≠n:=fun e=>h1 (e ▸ hl)
  exact ⟨h1,by rw [jsg,if_neg hmn,h2];simp [jpn n h3],h3⟩
theorem jwu {n:Nat} {e sz:Nat} {xs xs':List (List D)} {ψ:Nat→Prop} (H:Inv C R G st a w) (hl:G.live n) (hb:hlk st.h n=some (.row e sz xs)) (hW:WInv R w') (hs:w.heap.size≤w'.heap.size)
  (hw:∀m,G.live m→m≠n→∀k,G.φ m k→w'.heap[k]? = w.heap[k]?) (hrow:RowR w' e sz ψ xs' (G.hv n)) (hψ:∀k,ψ k→k < w'.heap.size∧(R.L k∨R.w0.heap.size≤k)∧∀lo hi,¬ R.LB k lo hi) (hd:∀k m,ψ k→G.live m→m≠n→G.φ m k→False) :
  Inv C R (G.turn n (G.hv n) ψ) { st with h:=hset st.h n (.row e sz xs') } a w'∧Fr G st.h (G.turn n (G.hv n) ψ) (hset st.h n (.row e sz xs')):=by
 have hsm:∀k,Same G st.h (G.turn n (G.hv n) ψ) (hset st.h n (.row e sz xs')) k:=fun k hlk' =>
  ⟨hlk',rfl,by simp only [Gh.turn];split<;>simp_all,fun e' sz' ys hx=>by
   by_cases hk:k=n
   ·subst hk;rw [hb] at hx;cases hx;exact ⟨xs',by simp [jga]⟩
   ·exact ⟨ys,by rw [jga,if_neg hk];exact hx⟩⟩
 obtain ⟨b,hb',hbr⟩:=H.B.rel n hl id
 rw [hb] at hb';cases hb'
 refine ⟨⟨hW,⟨fun k hk _=>?_,fun k m hk _ hm _ hkm j hj1 hj2=>?_,fun k hk _ j hj=>?_,fun k b' hf=>?_⟩,fun _ _ _=>id,fun t=>jib hsm (H.slots t),H.l,H.m⟩,fun m cs ⟨h1,h2,h3⟩=>?_⟩
 ·by_cases hkn:k=n
  ·subst hkn
   exact ⟨.row e sz xs',by simp [jga],by simpa [Gh.turn] using hrow.x,hbr.2.1,hbr.2.2.1,fun j lo hi hj=>by simp only [Gh.turn,if_true] at hj;exact (hψ j hj).2.2 lo hi⟩
  ·obtain ⟨b,h1,h2⟩:=H.B.rel k hk id
   exact ⟨b,by simp [jga,hkn,h1],jhb hsm (by simp [Gh.turn,hkn]) rfl (by simp [Gh.turn,hkn]) (jge (hw k hk hkn) h2)⟩
 ·simp only [Gh.turn] at hj1 hj2
  by_cases hk':k=n
  ·subst hk'
   rw [if_pos rfl] at hj1
   rw [if_neg (Ne.symm hkm)] at hj2
   exact hd j m hj1 hm (Ne.symm hkm) hj2
  ·rw [if_neg hk'] at hj1
   by_cases hm':m=n
   ·subst hm'
    rw [if_pos rfl] at hj2
    exact hd j k hj2 hk hk' hj1
   ·rw [if_neg hm'] at hj2
    exact H.B.disj k m hk id hm id hkm j hj1 hj2
 ·simp only [Gh.turn] at hj
  by_cases hk':k=n
  ·rw [if_pos hk'] at hj;exact ⟨(hψ j hj).1,(hψ j hj).2.1⟩
  ·rw [if_neg hk'] at hj;exact ⟨Nat.lt_of_lt_of_le (H.B.mine k hk id j hj).1 hs,(H.B.mine k hk id j hj).2⟩
 ·obtain ⟨h1,h2,h3⟩:=H.B.fix k b' hf
  obtain ⟨ds,hc⟩:=h3 id
  have hkn:k≠n:=fun e=>by subst e;rw [hb] at hc;cases hc
  exact ⟨h1,h2,fun _=>⟨_,by simp [jga,hkn];exact hc⟩⟩
 ·have hmn:m≠n:=fun e=>h1 (e ▸ hl)
  exact ⟨h1,by rw [jga,if_neg hmn];exact h2,h3⟩
end Go.Den

/- Operations that make or change variables and rows: alloc, box, store, cut. -/
namespace Go.Den
open Go
variable {C:Ctx} {R:Rt} {G G0:Gh} {st st1:St} {a:Act} {w w':World} {o:Oper} {v:SV}

def jfd (C:Ctx) (R:Rt) (G:Gh) (st:St) (a:Act) (w:World) (o:Oper) (v:SV) (st1:St):Prop :=
 ∀(K:Act→World→Prop) (Q:Exit→Act→World→Prop),(∀val w' G',Inv C R G' st1 a w'→VRel R G' st1.h v val→Fr G st.h G' st1.h→K (a.put o.dst val) w')→o.wp C.P a w K Q
theorem Inv.here (H:Inv C R G st a w):Here C R G st a w []:=⟨H.W,H.bare,H.l,.inl ⟨rfl,rfl⟩⟩
theorem Inv.ev (H:Inv C R G st a w) (x:Operand):VRel R G st.h (Den.ev C st [] x) (a.eval x):=jqg H.here.good (fun t _=>H.slots t)
theorem Inv.evE (H:Inv C R G st a w) {x:Operand} {y:SV} (h:Den.ev C st [] x=y):VRel R G st.h y (a.eval x):=h ▸ H.ev x

theorem joa (w:World) (ob:Obj):(w.alloc ob).heap.size=w.heap.size+1:=by
 show (w.heap.push ob).size=_
 simp
theorem jrd (w:World) (ob:Obj):Ext w (w.alloc ob):=⟨rfl,rfl,rfl,by rw [joa];omega,fun k hk=>heap_alloc_old w ob k hk⟩
theorem ext_drew_alloc (w:World) (ob:Obj):Ext w (w.drew.alloc ob):=⟨rfl,rfl,rfl,by rw [joa];show w.heap.size≤w.heap.size+1;omega,fun k hk=>heap_alloc_old w.drew ob k hk⟩
theorem jsm:∀(zs:List D),(svZs zs).length=zs.length
 | []=>rfl
 | z :: zs=>by simp [svZs,jsm zs]

theorem jut {t:TypeId} {zs:List D} {s:Nat} (H:Inv C R G st a w) (ho:o.op=.alloc t) (hz:(tyOf C.P t).zeros=some zs) (ha:adds st [(s,.box (svZs zs))]=some st1):jfd C R G st a w o (.ptr s 0) st1:=by
 intro K Q hK
 obtain ⟨hn,rfl⟩:=jid ha
 obtain ⟨i,z,h1,h2,h3,h4,h5,h6⟩:=jzb hz
 have hc:=jue (R:=R) (G:=G) (h:=st.h) (zs:=zs) (vs:=z.cells.toList) (by simpa using h4.symm) h6
 have hr:(execOp a.eval o).run C.P w=.ok (.value (.pointer (some ⟨w.heap.size,0,none⟩))) (w.alloc (.cells z.cells t)):=by
  simp [execOp,ho,Instr.alloc,zeroValue,typeInfo,h1,h2,newVar,newRow]
 unfold Oper.wp
 rw [hr]
 obtain ⟨i1,i2⟩:=jku (cs:=svZs zs) (cur:=z.cells) (e:=t) H (jrd w _) hn (heap_alloc_new w _) (joa w _) (by rw [jsm,h4];exact Nat.le_refl _) (fun j x hj=>by obtain ⟨u,k1,k2,k3⟩:=hc.2 j x hj;exact ⟨u,by simpa using k1,k2,k3⟩)
 exact hK _ _ _ i1 i2 (jqk hn)

theorem jsb {h:List (Nat × Blk)} {x:SV} {u:Value} (hx:VRel R G h x u) (hok:okSV x=true):u.cells.size=(cellsOf x).length∧∀(j:Nat) c,(cellsOf x)[j]? = some c→∃y,u.cells[j]? = some y∧y.oneCell'=true∧CRel R G h c y :=
 jar hx (by intro vs e;rw [e] at hok;cases hok) (by intro e;rw [e] at hok;cases hok)
theorem jxx {t:TypeId} {x:Operand} {s:Nat} (H:Inv C R G st a w) (ho:o.op=.box t x) (hok:okSV (ev C st [] x)=true) (ha:adds st [(s,.box (cellsOf (ev C st [] x)))]=some st1):jfd C R G st a w o (.ptr s 0) st1:=by
 intro K Q hK
 obtain ⟨hn,rfl⟩:=jid ha
 obtain ⟨h1,h2⟩:=jsb (H.ev x) hok
 have hr:(execOp a.eval o).run C.P w=.ok (.value (.pointer (some ⟨w.heap.size,0,none⟩))) (w.alloc (.cells (a.eval x).cells t)):=by
  simp [execOp,ho,Instr.box,newVar,newRow]
 unfold Oper.wp
 rw [hr]
 obtain ⟨i1,i2⟩:=jku (cur:=(a.eval x).cells) (e:=t) H (jrd w _) hn (heap_alloc_new w _) (joa w _) (by rw [h1];exact Nat.le_refl _) h2
 exact hK _ _ _ i1 i2 (jqk hn)

theorem jwk (cur:Array Value) (b:Nat) (vs:List Value) (hl:b+vs.length≤cur.size):(cur.toList.take b++vs++cur.toList.drop (b+vs.length)).toArray.size=cur.size ∧
  ∀o,(cur.toList.take b++vs++cur.toList.drop (b+vs.length)).toArray[o]? = if b≤o∧o < b+vs.length then vs[o - b]? else cur[o]?:=by
 refine ⟨by simp;omega,fun o=>?_⟩
 have hlen:(cur.toList.take b).length=b:=by simp;omega
 simp only [List.getElem?_toArray]
 by_cases h1:o < b
 ·rw [if_neg (by omega),List.append_assoc,List.getElem?_append_left (by omega),List.getElem?_take,if_pos h1,Array.getElem?_toList]
 ·by_cases h2:o < b+vs.length
  ·rw [if_pos ⟨by omega,h2⟩,List.getElem?_append_left (by simp;omega),List.getElem?_append_right (by omega),hlen]
  ·rw [if_neg (by omega),List.getElem?_append_right (by simp;omega),List.getElem?_drop,Array.getElem?_toList]
   congr 1
   simp
   omega
theorem jmq {P:Program} {t:TypeId} {g b:Nat} {cur:Array Value} {e:TypeId} {v:Value} (hk:okTy (tyOf P t)=true) (hs:v.cells.size=(tyOf P t).size) (hg:w.heap[g]? = some (.cells cur e (0,0))) (hl:b+v.cells.size≤cur.size) (h1:∀(j:Nat) u,v.cells[j]? = some u→u.oneCell'=true) :
  (Instr.storeAt t (.pointer (some ⟨g,b,none⟩)) v).run P w=.ok () (w.setRow g (cur.toList.take b++v.cells.toList++cur.toList.drop (b+v.cells.toList.length)).toArray):=by
 obtain ⟨i,d,hi,_,hsz,_⟩:=jzu hk
 have h2:=run_storeCells_at P g b e v.cells.toList 0 cur w hg (by simpa using hl) (fun u hu=>by obtain ⟨j,hj⟩:=List.getElem?_of_mem hu;exact h1 j u (by simpa using hj))
 simp only [Nat.add_zero] at h2
 simp [Instr.storeAt,Instr.sureAddr,storeVar,sizeOf,typeInfo,hi,hsz,hs]
 rw [←hs]
 simpa using h2

theorem jun {t:TypeId} {p x:Operand} {n off:Nat} {cs:List SV} (H:Inv C R G st a w) (ho:o.op=.store t p x) (hp:ev C st [] p=.ptr n off) (hb:hlk st.h n=some (.box cs)) (hok:okSV (ev C st [] x)=true) (hk:okTy (tyOf C.P t)=true)
  (hl:off+(cellsOf (ev C st [] x)).length≤cs.length) (hsz:(cellsOf (ev C st [] x)).length=(tyOf C.P t).size):jfd C R G st a w o .undef { st with h:=hset st.h n (.box (setRange cs off (cellsOf (ev C st [] x)))) }:=by
 intro K Q hK
 obtain ⟨hlive,hpv⟩:=H.evE hp
 obtain ⟨b,hb',hbr⟩:=H.B.rel n hlive id
 rw [hb] at hb';cases hb'
 obtain ⟨cur,e,r1,r2,r3,r4,r5⟩:=hbr
 obtain ⟨h1,h2⟩:=jsb (H.ev x) hok
 have hl':(G.base n).2+off+(a.eval x).cells.toList.length≤cur.size:=by simp;omega
 have hone:∀(j:Nat) u,(a.eval x).cells[j]? = some u→u.oneCell'=true:=fun j u hu=>by
  have hj:j < (cellsOf (ev C st [] x)).length:=by rw [←h1];exact (Array.getElem?_eq_some_iff.1 hu).1
  obtain ⟨y,k1,k2,_⟩:=h2 j _ (List.getElem?_eq_getElem hj)
  rw [hu] at k1;cases k1;exact k2
 have hst:=jmq (P:=C.P) (w:=w) hk (by rw [h1,hsz]) r1 (by simpa using hl') hone
 obtain ⟨p1,p2⟩:=jwk cur ((G.base n).2+off) (a.eval x).cells.toList hl'
 have hr:(execOp a.eval o).run C.P w=.ok .skip (w.setRow (G.base n).1 (cur.toList.take ((G.base n).2+off)++(a.eval x).cells.toList++cur.toList.drop ((G.base n).2+off+(a.eval x).cells.toList.length)).toArray):=by
  simp only [execOp,ho,hpv]
  simp [hst]
 unfold Oper.wp
 rw [hr]
 obtain ⟨q1,q2⟩:=jxb cs off (cellsOf (ev C st [] x)) hl
 obtain ⟨i1,i2,i3⟩:=jiu (cs':=setRange cs off (cellsOf (ev C st [] x))) H hlive hb (jxh r1 p1) q1 (fun o ho=>by rw [p2 o,if_neg (by simp;omega)]) (fun j y hj=>by
  rw [q2 j] at hj
  split at hj
  ·rename_i hjr
   obtain ⟨u,k1,k2,k3⟩:=h2 _ _ hj
   refine ⟨u,?_,k2,k3⟩
   rw [p2,if_pos (by simp;omega),Array.getElem?_toList,show (G.base n).2+j - ((G.base n).2+off)=j - off by omega]
   exact k1
  ·rename_i hjr
   obtain ⟨u,k1,k2,k3⟩:=r5 j y hj
   refine ⟨u,?_,k2,k3⟩
   rw [p2,if_neg (by simp;omega)]
   exact k1)
 exact hK undef _ G i1 trivial i3

theorem row_cut {e sz:Nat} {φ:Nat→Prop} {xs:List (List D)} {g o len cap l hi mx:Nat} (h0:0 < sz) (h:RowR w e sz φ xs (.slice (some ⟨g,o,none⟩) len cap)) (hl:l≤hi) (hh:hi≤xs.length) (hm:hi≤mx) (hmc:mx≤cap) (hlm:l < mx) :
  RowR w e sz φ ((xs.take hi).drop l) (.slice (some ⟨g,o+l * sz,none⟩) (hi - l) (mx - l)):=by
 rcases RowR.els h0 h with ⟨h1,_⟩ | ⟨g',o',cap',t',cur,h1,h2,h3,h4,h5,h6,h7⟩
 ·cases h1
 ·simp only [Value.slice.injEq,Option.some.injEq,Addr.mk.injEq,and_true] at h1
  obtain ⟨⟨rfl,rfl⟩,rfl,rfl⟩:=h1
  have hlen:((xs.take hi).drop l).length=hi - l:=by simp;omega
  have hsz:∀r∈(xs.take hi).drop l,r.length=sz:=fun r hr=>h6 r (List.mem_of_mem_take (List.mem_of_mem_drop hr))
  have e1:l * sz≤mx * sz:=Nat.mul_le_mul_right _ (by omega)
  have e2:mx * sz≤cap * sz:=Nat.mul_le_mul_right _ hmc
  have e3:(mx - l) * sz=mx * sz - l * sz:=Nat.sub_mul _ _ _
  have e4:(hi - l) * sz=hi * sz - l * sz:=Nat.sub_mul _ _ _
  have e5:hi * sz≤xs.length * sz:=Nat.mul_le_mul_right _ hh
  have e6:l * sz≤hi * sz:=Nat.mul_le_mul_right _ hl
  have hE:=(h7.take (hi * sz)).drop (l * sz)
  have hfl:((xs.take hi).drop l).flatten=(xs.flatten.take (hi * sz)).drop (l * sz):=by
   apply List.ext_getElem?
   intro k
   obtain ⟨f1,f2⟩:=jqa hsz
   obtain ⟨f3,f4⟩:=jqa h6
   have hk:k=k / sz * sz+k % sz:=by have:=Nat.div_add_mod k sz;rw [Nat.mul_comm] at this;omega
   have hm':k % sz < sz:=Nat.mod_lt _ h0
   rw [List.getElem?_drop,List.getElem?_take]
   rw [hk,f2 _ _ hm',List.getElem?_drop,List.getElem?_take,←hk]
   by_cases hc:l+k / sz < hi
   ·have:(l+k / sz+1) * sz≤hi * sz:=Nat.mul_le_mul_right _ hc
    rw [Nat.add_mul,Nat.add_mul] at this
    rw [if_pos hc,if_pos (by omega),show l * sz+k=(l+k / sz) * sz+k % sz by rw [Nat.add_mul];omega,f4 _ _ hm']
   ·have:hi * sz≤(l+k / sz) * sz:=Nat.mul_le_mul_right _ (by omega)
    rw [Nat.add_mul] at this
    rw [if_neg hc,if_neg (by omega)]
    rfl
  have:=RowR.mk (e:=e) (xs:=(xs.take hi).drop l) (o:=o+l * sz) (cap:=mx - l) h0 h2 h3 (by omega) (by omega) hsz (by
   rw [hfl,hlen]
   have e:((cur.toList.drop (o+l * sz)).take ((hi - l) * sz))=(((cur.toList.drop o).take (xs.length * sz)).take (hi * sz)).drop (l * sz):=by
    rw [List.take_take,Nat.min_eq_left e5,List.drop_take,List.drop_drop,e4]
   rw [e]
   exact hE)
  rw [hlen] at this
  exact this
end Go.Den

/- Rows cut, made, built; an element's cells written. -/
namespace Go.Den
open Go
variable {C:Ctx} {R:Rt} {G G0:Gh} {st st1:St} {a:Act} {w w':World} {o:Oper} {v:SV}

theorem jil {el:TypeId} {n:Nat} {ok:List (List D)→Bool} {f:List (List D)→List (List D)} (H:Inv C R G st a w) (h:cut C st el n ok f=some (true,v,st1)) (hlive:G.live n)
  (hrun:∀{e sz:Nat} {xs:List (List D)} {zs:List D},0 < sz→(tyOf C.P el).zeros=some zs→sz=zs.length→ok xs=true→RowR w e sz (G.φ n) xs (G.hv n)→∃val,(execOp a.eval o).run C.P w=.ok (.value val) w∧RowR w e sz (G.φ n) (f xs) val):jfd C R G st a w o v st1:=by
 intro K Q hK
 unfold cut at h
 split at h
 ·rename_i zs e sz xs hz hb
  split at h
  ·rename_i hsz
   obtain ⟨hsz,hwk⟩:=hsz
   simp only [Option.some.injEq,Prod.mk.injEq] at h
   obtain ⟨hok,rfl,rfl⟩:=h
   obtain ⟨b,hb',hbr⟩:=H.B.rel n hlive id
   rw [hb] at hb';cases hb'
   obtain ⟨r1,r2,r3,r4⟩:=hbr
   obtain ⟨val,h1,h2⟩:=hrun r3 hz hsz hok (r1.row hwk)
   unfold Oper.wp
   rw [h1]
   obtain ⟨i1,i2,i3⟩:=jzr (xs':=f xs) (v:=val) (ψ:=G.φ n) H hlive hb H.W (Nat.le_refl _) (fun _ _ _ _ _=>rfl) h2 (fun k hk=>⟨(H.B.mine n hlive id k hk).1,(H.B.mine n hlive id k hk).2,fun lo hi=>r4 k lo hi hk⟩) (fun k m hk hm hmn=>H.B.disj n m hlive id hm id (Ne.symm hmn) k hk)
   exact hK _ _ _ i1 i2 i3
  ·cases h
 ·cases h

theorem jpu {e sz:Nat} {φ:Nat→Prop} {xs:List (List D)} {v:Value} (h:RowR w e sz φ xs v):(v=.slice none 0 0∧xs=[])∨∃g o cap,v=.slice (some ⟨g,o,none⟩) xs.length cap∧xs.length≤cap:=by
 rcases h with h | ⟨g,o,cap,t,cur,val,ψ,h,_,_,h1,_⟩
 ·exact .inl h
 ·exact .inr ⟨g,o,cap,h,h1⟩
theorem jap {e sz:Nat} {φ:Nat→Prop} {xs:List (List D)} {A:Option Addr} {len cap:Nat} (h:RowR w e sz φ xs (.slice A len cap)):xs.length≤cap:=by
 rcases jpu h with ⟨h1,h2⟩ | ⟨g,o,cap',h1,h2⟩
 ·subst h2;simp
 ·simp only [Value.slice.injEq] at h1
  omega
theorem jax {e sz:Nat} {φ:Nat→Prop} {xs:List (List D)} {g o len cap:Nat} (h0:0 < sz) (h:RowR w e sz φ xs (.slice (some ⟨g,o,none⟩) len cap)):RowR w e sz φ [] (.slice (some ⟨g,o,none⟩) 0 0):=by
 rcases RowR.els h0 h with ⟨h1,_⟩ | ⟨g',o',cap',t',cur,h1,h2,h3,h4,h5,h6,h7⟩
 ·cases h1
 ·simp only [Value.slice.injEq,Option.some.injEq,Addr.mk.injEq,and_true] at h1
  obtain ⟨⟨rfl,rfl⟩,rfl,rfl⟩:=h1
  exact RowR.mk (xs:=[]) (cap:=0) h0 h2 h3 (Nat.le_refl _) (by omega) (by simp) (by simpa using Els.nil _ _)
theorem jbp {e sz:Nat} {φ:Nat→Prop} {xs:List (List D)} {A:Option Addr} {len cap l hi mx:Nat} (h0:0 < sz) (h:RowR w e sz φ xs (.slice A len cap)) (hl:l≤hi) (hh:hi≤xs.length) (hm:hi≤mx) (hmc:mx≤cap) :
  RowR w e sz φ ((xs.take hi).drop l) (.slice (if mx=l then A else A.map (·.add (l * sz))) (hi - l) (mx - l)):=by
 rcases jpu h with ⟨h1,rfl⟩ | ⟨g,o,cap',h1,h2⟩
 ·simp only [Value.slice.injEq] at h1
  obtain ⟨rfl,rfl,rfl⟩:=h1
  have:mx=0:=by omega
  have:l=0:=by simp at hh;omega
  have:hi=0:=by simp at hh;omega
  subst_vars
  simpa using h
 ·simp only [Value.slice.injEq] at h1
  obtain ⟨rfl,rfl,rfl⟩:=h1
  by_cases hlm:mx=l
  ·have:hi=l:=by omega
   subst this
   subst hlm
   simp only [if_true,Nat.sub_self]
   have hx:(xs.take mx).drop mx=[]:=by simp
   rw [hx]
   exact jax h0 h
  ·rw [if_neg hlm]
   have:=row_cut h0 h hl hh hm hmc (by omega)
   simpa [jmb] using this

theorem jyt {P:Program} {len cap:Nat} {k k':IntKind} {n n':Int} (h0:0≤n) (h1:n'=n) (h2:n≤cap):(Instr.sliceBounds true len cap none (some (.int k n)) (some (.int k' n'))).run P w=.ok (0,n.toNat,n.toNat) w:=by
 subst h1
 simp [Instr.sliceBounds,jpd (P:=P) (w:=w) (k:=k') (n:=n') (y:=cap) h0 h2,jpd (P:=P) (w:=w) (k:=k) (n:=n') (y:=n'.toNat) h0 (by omega)]
theorem jqj {P:Program} {t el:TypeId} {zs:List D} {A:Option Addr} {len cap l hi mx:Nat} {lo h m:Option Value} (ht:tyOf P t=.sl el) (hz:(tyOf P el).zeros=some zs) (hb:(Instr.sliceBounds true len cap lo h m).run P w=.ok (l,hi,mx) w) :
  (Instr.sliceAt t (.slice A len cap) lo h m).run P w=.ok (.slice (if mx=l then A else A.map (·.add (l * zs.length))) (hi - l) (mx - l)) w:=by
 obtain ⟨_,_,hu,_⟩:=jed ht
 obtain ⟨i,z,hi1,_,hi2,_⟩:=jzb hz
 simp [Instr.sliceAt,Instr.slice,underlying,hu,hb,sizeOf,typeInfo,hi1,hi2]
theorem jvt {t:TypeId} {x:Operand} {lo hi mx:Option Operand} {s:Nat} (H:Inv C R G st a w) (ho:o.op=.slice t x lo hi mx) (h:heavy C st s o.op=some (true,v,st1)):jfd C R G st a w o v st1:=by
 rw [ho] at h
 simp only [heavy] at h
 have hval:∀{y:Option Operand} {k:IntKind} {n:Int},y.map (ev C st [])=some (.d (.i k n))→y.map a.eval=some (.int k n):=by
  intro y k n hy
  cases y with
  | none=>cases hy
  | some y=>simp only [Option.map_some,Option.some.injEq] at hy ⊢;exact jpb (H.evE hy)
 have hnone:∀{y:Option Operand},y.map (ev C st [])=none→y.map a.eval=none:=by
  intro y hy
  cases y with
  | none=>rfl
  | some y=>cases hy
 split at h
 ·rename_i el n k i ht hx hlo hhi hmx
  obtain ⟨hl,hv,_⟩:=H.evE hx
  refine jil H h hl fun {e sz xs zs} h0 hz hsz hok hr=>?_
  simp only [decide_eq_true_eq] at hok
  obtain ⟨A,cap,hhv⟩:=jsl hr
  rw [hhv] at hr hv
  have hcap:=jap hr
  have hb:=jwc (P:=C.P) (w:=w) (isS:=true) (len:=xs.length) (cap:=cap) (lo:=lo.map a.eval) (hi:=hi.map a.eval) (l:=0) (h:=i.toNat) (.inr ⟨k,i,hval hhi,hok.1,rfl⟩) (.inl ⟨hnone hlo,rfl⟩) (by omega) (by omega)
  have hrun:=jqj (P:=C.P) (w:=w) (A:=A) ht hz hb
  have hcut:=jbp (l:=0) (hi:=i.toNat) (mx:=cap) h0 hr (by omega) (by omega) (by omega) (Nat.le_refl _)
  rw [hsz] at hcut
  refine ⟨_,?_,by simpa [hsz] using hcut⟩
  rw [←hnone hmx] at hrun
  simp only [execOp,ho,hv]
  simp [hrun]
 ·rename_i el n k i k' i' ht hx hlo hhi hmx
  obtain ⟨hl,hv,_⟩:=H.evE hx
  refine jil H h hl fun {e sz xs zs} h0 hz hsz hok hr=>?_
  simp only [decide_eq_true_eq] at hok
  obtain ⟨A,cap,hhv⟩:=jsl hr
  rw [hhv] at hr hv
  have hcap:=jap hr
  have hb:=jyt (P:=C.P) (w:=w) (len:=xs.length) (cap:=cap) (k:=k) (k':=k') (n:=i) (n':=i') hok.1 hok.2.2 (by omega)
  have hrun:=jqj (P:=C.P) (w:=w) (A:=A) ht hz hb
  have hcut:=jbp (l:=0) (hi:=i.toNat) (mx:=i.toNat) h0 hr (by omega) (by omega) (by omega) (by omega)
  rw [hsz] at hcut
  refine ⟨_,?_,by simpa [hsz] using hcut⟩
  rw [←hnone hlo,←hval hhi,←hval hmx] at hrun
  simp only [execOp,ho,hv]
  simp [hrun]
 ·rename_i el n k i ht hx hlo hhi hmx
  obtain ⟨hl,hv,_⟩:=H.evE hx
  refine jil H h hl fun {e sz xs zs} h0 hz hsz hok hr=>?_
  simp only [decide_eq_true_eq] at hok
  obtain ⟨A,cap,hhv⟩:=jsl hr
  rw [hhv] at hr hv
  have hcap:=jap hr
  have hb:=jwc (P:=C.P) (w:=w) (isS:=true) (len:=xs.length) (cap:=cap) (lo:=lo.map a.eval) (hi:=hi.map a.eval) (l:=i.toNat) (h:=xs.length) (.inl ⟨hnone hhi,rfl⟩) (.inr ⟨k,i,hval hlo,hok.1,rfl⟩) (by omega) (by omega)
  have hrun:=jqj (P:=C.P) (w:=w) (A:=A) ht hz hb
  have hcut:=jbp (l:=i.toNat) (hi:=xs.length) (mx:=cap) h0 hr (by omega) (by omega) (by omega) (Nat.le_refl _)
  rw [hsz,List.take_length] at hcut
  refine ⟨_,?_,by simpa [hsz] using hcut⟩
  rw [←hnone hmx] at hrun
  simp only [execOp,ho,hv]
  simp [hrun]
 ·cases h
end Go.Den

/- Rows made, built. -/
namespace Go.Den
open Go
variable {C:Ctx} {R:Rt} {G G0:Gh} {st st1:St} {a:Act} {w w':World} {o:Oper} {v:SV}

theorem jxn {el:TypeId} {zs:List D} (h:elz C el=some zs):(tyOf C.P el).zeros=some zs∧0 < zs.length∧EOk C.P el zs.length:=by
 unfold elz at h
 split at h
 ·rename_i z r hz
  cases h
  obtain ⟨i,_,h1,_,h2,_⟩:=jzb hz
  exact ⟨hz,by simp,.inr ⟨i,h1,h2⟩,by simp⟩
 ·cases h
theorem jlp {n e sz:Nat} {xs:List (List D)} {v:Value} {ψ:Nat→Prop} (H:Inv C R G st a w) (he:Ext w w') (hn:hlk st.h n=none) (hrow:RowR w' e sz ψ xs v) (hE:EOk C.P e sz)
    (hψ:∀k,ψ k→k < w'.heap.size∧(R.L k∨R.w0.heap.size≤k)∧∀lo hi,¬ R.LB k lo hi) (hd:∀k m,ψ k→G.live m→G.φ m k→False) :
    Inv C R (G.add n (0,0) v ψ) { st with h:=st.h++[(n,.row e sz xs)] } a w'∧VRel R (G.add n (0,0) v ψ) (st.h++[(n,.row e sz xs)]) (.own n) v∧Fr G st.h (G.add n (0,0) v ψ) (st.h++[(n,.row e sz xs)]) :=
  ⟨jeg (jtc H he) hn id (fun k hk=>⟨(hψ k hk).1,(hψ k hk).2.1⟩) (fun k m hk hm _ hφ=>hd k m hk hm hφ)
    ⟨by simpa [Gh.add] using hrow.x,hE.1,hE.2,fun k lo hi hk=>by simp only [Gh.add,if_true] at hk;exact (hψ k hk).2.2 lo hi⟩,
   ⟨.inr rfl,by simp [Gh.add],hrow.own.one⟩,jqk hn⟩
theorem jnd (H:Inv C R G st a w):(R.L w.heap.size∨R.w0.heap.size≤w.heap.size)∧(∀lo hi,¬ R.LB w.heap.size lo hi)∧∀m,G.live m→¬ G.φ m w.heap.size :=
 ⟨.inr H.W.size,fun lo hi h=>by have:=jjg H.W h;have:=H.W.size;omega,fun m hm h=>by have:=(H.B.mine m hm id _ h).1;omega⟩

theorem jlr {z:Array Value} {n sz i j:Nat} (hz:z.size=sz) (hj:j < sz) (hi:i * sz+j < n):(madeCells z n)[i * sz+j]? = z[j]?:=by
 have h1:(i * sz+j) % sz=j:=by rw [Nat.mul_comm,Nat.mul_add_mod,Nat.mod_eq_of_lt hj]
 simp only [madeCells,hz]
 rw [Array.getElem?_map,Array.getElem?_range]
 rw [if_pos hi]
 simp only [Option.map_some,h1]
 rw [getElem!_pos z j (by omega),getElem?_pos z j (by omega)]
theorem jos {el:TypeId} (h:small C.P el=true):∃i,C.P.info? el=some i∧i.bytes≤2048:=by
 unfold small at h
 split at h
 ·rename_i i hi;exact ⟨i,hi,by simpa using h⟩
 ·cases h

theorem jpw {t el:TypeId} {x y:Operand} {s:Nat} {zs:List D} {kx ky:IntKind} {k:Int} (H:Inv C R G st a w) (ho:o.op=.makeSlice t x y) (ht:tyOf C.P t=.sl el) (hx:ev C st [] x=.d (.i kx k)) (hy:ev C st [] y=.d (.i ky k)) (hsm:small C.P el=true) (hz:elz C el=some zs)
  (h0:0≤k) (hlim:k≤lim) (ha:adds st [(s,.row el zs.length (List.replicate k.toNat zs))]=some st1):jfd C R G st a w o (.own s) st1:=by
 intro K Q hK
 obtain ⟨hn,rfl⟩:=jid ha
 obtain ⟨hz1,hpos,hE⟩:=jxn hz
 obtain ⟨i,z,h1,h2,h3,h4,h5,h6⟩:=jzb hz1
 obtain ⟨_,_,hu,_⟩:=jed ht
 obtain ⟨i',h1',hb⟩:=jos hsm
 rw [h1] at h1';cases h1'
 have hl:lim=68719476736:=rfl
 have hbytes:(i.bytes:Int) * k≤281474976710656:=by
  have h7:(i.bytes:Int) * k≤2048 * k:=Int.mul_le_mul_of_nonneg_right (by omega) h0
  omega
 have hrun:=run_make (P:=C.P) w t el i z hu h1 h2 kx ky k k h0 (Int.le_refl _) hbytes (by omega)
 rw [h3] at hrun
 have hr:(execOp a.eval o).run C.P w=.ok (.value (.slice (some ⟨w.heap.size,0,none⟩) k.toNat k.toNat)) (w.alloc (.cells (madeCells z.cells (k.toNat * zs.length)) el)):=by
  simp [execOp,ho,jpb (H.evE hx),jpb (H.evE hy),hrun]
 unfold Oper.wp
 rw [hr]
 have hsz:∀r∈List.replicate k.toNat zs,r.length=zs.length:=fun r hr=>by rw [List.eq_of_mem_replicate hr]
 obtain ⟨f1,f2⟩:=jqa hsz
 have hrow:RowR (w.alloc (.cells (madeCells z.cells (k.toNat * zs.length)) el)) el zs.length (·=w.heap.size) (List.replicate k.toNat zs) (.slice (some ⟨w.heap.size,0,none⟩) k.toNat k.toNat):=by
  have:=RowR.mk (w:=w.alloc (.cells (madeCells z.cells (k.toNat * zs.length)) el)) (e:=el) (sz:=zs.length) (φ:=(·=w.heap.size)) (xs:=List.replicate k.toNat zs) (g:=w.heap.size) (o:=0) (cap:=k.toNat) (cur:=madeCells z.cells (k.toNat * zs.length)) hpos (heap_alloc_new w _) rfl (by simp) (by simp [size_madeCells]) hsz (by
   refine (Els.flat (w:=w) (by simp [f1,size_madeCells]) fun j d u hd hu=>?_).mono (fun k h=>h.elim) (fun k h=>h.elim)
   have hj:j=j / zs.length * zs.length+j % zs.length:=by have:=Nat.div_add_mod j zs.length;rw [Nat.mul_comm] at this;omega
   have hm:j % zs.length < zs.length:=Nat.mod_lt _ hpos
   have hlt:j < (List.replicate k.toNat zs).flatten.length:=(List.getElem?_eq_some_iff.1 hd).1
   rw [f1,List.length_replicate] at hlt
   rw [hj,f2 _ _ hm,Option.bind_eq_some_iff] at hd
   obtain ⟨r,hd1,hd2⟩:=hd
   have hr':=List.eq_of_mem_replicate (List.mem_of_getElem? hd1)
   subst hr'
   rw [List.drop_zero,List.length_replicate,List.getElem?_take,if_pos hlt,Array.getElem?_toList,hj,jlr h4 hm (by omega)] at hu
   obtain ⟨v',hv1,hv2⟩:=h6 _ _ hd2
   rw [Array.getElem?_toList,hu] at hv1;cases hv1
   exact (jiq hv2 _ _).2.2)
  simpa using this
 obtain ⟨b1,b2,b3⟩:=jnd H
 obtain ⟨i1,i2,i3⟩:=jlp (n:=s) H (jrd w _) hn hrow hE (fun j hj=>by subst hj;exact ⟨by rw [joa];omega,b1,b2⟩) (fun j m hj hm hφ=>by subst hj;exact b3 m hm hφ)
 exact hK _ _ _ i1 i2 i3

/-! literals of slices -/
theorem jrp {size n:Nat}:∀(parts:List (Nat × Value)) (k:Nat) (A:Array Value),A.size=n * size→(∀(j:Nat) q,parts[j]? = some q→q.1=k+j∧q.2.cells.size=size)→k+parts.length≤n →
  ∃A',Instr.fill (fun i=>some (i * size,size)) A parts=some A'∧A'.size=A.size∧∀j,A'[j]? = if k * size≤j∧j < (k+parts.length) * size then (parts.flatMap fun q=>q.2.cells.toList)[j - k * size]? else A[j]?
 | [],k,A,hA,hp,hk=>⟨A,rfl,rfl,fun j=>by rw [if_neg (by simp only [List.length_nil,Nat.add_zero];omega)]⟩
 | (i,x) :: r,k,A,hA,hp,hk=>by
  obtain ⟨hi,hx⟩:=hp 0 (i,x) rfl
  simp only [Nat.add_zero] at hi hx
  subst hi
  have e1:(i+1) * size≤n * size:=Nat.mul_le_mul_right _ (by simp at hk;omega)
  rw [Nat.add_mul,Nat.one_mul] at e1
  obtain ⟨g1,g2⟩:=jmk (i * size) x.cells.toList 0 A (by simp [hx];omega)
  simp only [Nat.add_zero] at g1 g2
  have hz:(x.cells.zipIdx.foldl (fun cs (c,j)=>cs.setIfInBounds (i * size+j) c) A)=((x.cells.toList.zipIdx 0).foldl (fun cs (c,j)=>cs.setIfInBounds (i * size+j) c) A):=by
   rw [←Array.foldl_toList];simp
  obtain ⟨A',a1,a2,a3⟩:=jrp r (i+1) _ (g1.trans hA) (fun j q hj=>by obtain ⟨h1,h2⟩:=hp (j+1) q (by simpa using hj);exact ⟨by omega,h2⟩) (by simp at hk ⊢;omega)
  refine ⟨A',?_,a2.trans g1,fun j=>?_⟩
  ·simp only [Instr.fill]
   rw [if_neg (by simp [hx];omega),hz]
   exact a1
  ·rw [a3 j,g2 j]
   simp only [List.length_cons,List.flatMap_cons,Array.length_toList,hx]
   have e2:(i+1) * size=i * size+size:=by rw [Nat.add_mul,Nat.one_mul]
   have e3:(i+(r.length+1)) * size=(i+1+r.length) * size:=by congr 1;omega
   have e4:(i+1) * size≤(i+1+r.length) * size:=Nat.mul_le_mul_right _ (by omega)
   by_cases h1:i * size≤j∧j < i * size+size
   ·rw [if_neg (by omega),if_pos h1,if_pos ⟨h1.1,by omega⟩,List.getElem?_append_left (by simp [hx];omega)]
   ·by_cases h2:(i+1) * size≤j∧j < (i+1+r.length) * size
    ·rw [if_pos h2,if_pos ⟨by omega,by omega⟩,List.getElem?_append_right (by simp [hx];omega)]
     congr 1
     simp [hx]
     omega
    ·rw [if_neg h2,if_neg h1,if_neg (by omega)]

theorem jsy {x:SV} {r:List D × St} (h:takes st (cellsOf x)=some r):okSV x=true:=by
 cases x<;>first | rfl | (simp [cellsOf,takes,take1] at h)
theorem jek:∀{vs:List SV} {st:St} {ds:List D} {st1:St},takes st vs=some (ds,st1)→ds.length=vs.length
 | [],st,ds,st1,h=>by simp [takes] at h;simp [h.1]
 | v :: vs,st,ds,st1,h=>by
  simp only [takes] at h
  split at h
  ·split at h
   ·rename_i h2;cases h;simp [jek h2]
   ·cases h
  ·cases h
theorem jql {sz:Nat}:∀(parts:List (Nat × Operand)) (k:Nat) (st:St) (G:Gh) (rows:List (List D)) (st1:St),Inv C R G st a w→rowsOf C sz parts k st=some (rows,st1) →
  (∀(j:Nat) q,parts[j]? = some q→q.1=k+j∧(a.eval q.2).cells.size=sz)∧rows.length=parts.length∧(∀r∈rows,r.length=sz) ∧
  ∃G' θ,Inv C R G' st1 a w∧Gle G' G∧Els w θ rows.flatten (parts.flatMap fun q=>(a.eval q.2).cells.toList)∧(∀k,θ k→k < w.heap.size∧(R.L k∨R.w0.heap.size≤k)∧∀lo hi,¬ R.LB k lo hi)∧(∀k,θ k→∃n,G.live n∧G.φ n k)∧(∀k n,θ k→G'.live n→G'.φ n k→False)∧Fr G st.h G' st1.h
 | [],k,st,G,rows,st1,H,h=>by
  simp only [rowsOf,Option.some.injEq,Prod.mk.injEq] at h
  obtain ⟨rfl,rfl⟩:=h
  exact ⟨fun j q hj=>by simp at hj,rfl,by simp,G,fun _=>False,H,Gle.refl G,Els.nil _ _,fun _ h=>h.elim,fun _ h=>h.elim,fun _ _ h=>h.elim,Fr.refl _ _⟩
 | (i,x) :: r,k,st,G,rows,st1,H,h=>by
  simp only [rowsOf] at h
  split at h
  ·rename_i hi
   subst hi
   split at h
   ·rename_i c st2 htk
    split at h
    ·rename_i hlen
     split at h
     ·rename_i cs st3 hrec
      cases h
      obtain ⟨c1,c2⟩:=jsb (H.ev x) (jsy htk)
      obtain ⟨G1,θ,i1,i2,i3,i4,i5,i6,i7,i8⟩:=jze (cellsOf (ev C st [] x)) (a.eval x).cells.toList st G c st2 H (Gle.refl G) (Has.refl _ _) ⟨by simpa using c1,fun j y hj=>by obtain ⟨u,k1,k2,k3⟩:=c2 j y hj;exact ⟨u,by simpa using k1,k2,k3⟩⟩ htk
      obtain ⟨p1,p2,p3,G2,χ,j1,j2,j3,j4,j5,j6,j7⟩:=jql r (i+1) st2 G1 cs st1 i1 hrec
      have hsz:(a.eval x).cells.size=sz:=by rw [c1,←jek htk,hlen]
      refine ⟨fun j q hj=>?_,by simp [p2],fun q hq=>?_,G2,fun k=>θ k∨χ k,j1,j2.trans i2,?_,?_,?_,?_,i8.trans j7⟩
      ·cases j with
       | zero=>simp at hj;subst hj;exact ⟨rfl,hsz⟩
       | succ j=>obtain ⟨h1,h2⟩:=p1 j q (by simpa using hj);exact ⟨by omega,h2⟩
      ·simp only [List.mem_cons] at hq
       rcases hq with rfl | hq
       ·exact hlen
       ·exact p3 q hq
      ·simp only [List.flatten_cons,List.flatMap_cons]
       exact i4.append j3 (fun k hk hk'=>by obtain ⟨m,m1,m2⟩:=j5 k hk';exact i7 k m hk m1 id m2)
      ·rintro k (hk | hk);exact i5 k hk;exact j4 k hk
      ·rintro k (hk | hk)
       ·obtain ⟨m,m1,m2⟩:=i6 k hk;exact ⟨m,m1.1,m2⟩
       ·obtain ⟨m,m1,m2⟩:=j5 k hk;exact ⟨m,i2.1 m m1,by rw [←i2.2.2.2];exact m2⟩
      ·rintro k n (hk | hk) hn hφ
       ·exact i7 k n hk (j2.1 n hn) id (by rw [←j2.2.2.2];exact hφ)
       ·exact j6 k n hk hn hφ
     ·cases h
    ·cases h
   ·cases h
  ·cases h

theorem jxm {t el:TypeId} {n:Nat} {parts:Array (Nat × Operand)} {s:Nat} {zs:List D} {rows:List (List D)} {st2:St} (H:Inv C R G st a w) (ho:o.op=.buildSlice t n parts) (ht:tyOf C.P t=.sl el) (hz:elz C el=some zs) (hr:rowsOf C zs.length parts.toList 0 st=some (rows,st1)) (hn:rows.length=n) (hlim:n * zs.length≤16777216)
  (ha:adds st1 [(s,.row el zs.length rows)]=some st2):jfd C R G st a w o (.own s) st2:=by
 intro K Q hK
 obtain ⟨hnone,rfl⟩:=jid ha
 obtain ⟨hz1,hpos,hE⟩:=jxn hz
 obtain ⟨i,z,h1,h2,h3,h4,h5,h6⟩:=jzb hz1
 obtain ⟨_,_,hu,_⟩:=jed ht
 obtain ⟨p1,p2,p3,G1,θ,j1,j2,j3,j4,j5,j6,j7⟩:=jql parts.toList 0 st G rows st1 H hr
 have hfill:∃A',Instr.fill (fun i=>some (i * zs.length,zs.length)) (madeCells (if n * zs.length=0 then #[] else z.cells) (n * zs.length)) (parts.toList.map fun q=>(q.1,a.eval q.2))=some A'∧A'.size=n * zs.length∧∀j,A'[j]? = if j < n * zs.length then (parts.toList.flatMap fun q=>(a.eval q.2).cells.toList)[j]? else none:=by
  obtain ⟨A',f1,f2,f3⟩:=jrp (size:=zs.length) (n:=n) (parts.toList.map fun q=>(q.1,a.eval q.2)) 0 (madeCells (if n * zs.length=0 then #[] else z.cells) (n * zs.length)) (size_madeCells _ _) (fun j q hj=>by
   rw [List.getElem?_map,Option.map_eq_some_iff] at hj
   obtain ⟨q',hq,rfl⟩:=hj
   exact p1 j q' hq) (by simp at p2 ⊢;omega)
  refine ⟨A',f1,f2.trans (size_madeCells _ _),fun j=>?_⟩
  have hlen:(parts.toList.map fun q=>(q.1,a.eval q.2)).length=n:=by rw [List.length_map,←p2,hn]
  rw [f3 j,hlen]
  simp only [Nat.zero_mul,Nat.zero_le,true_and,Nat.zero_add,Nat.sub_zero,List.flatMap_map]
  split
  ·rfl
  ·rw [Array.getElem?_eq_none];rw [size_madeCells];omega
 obtain ⟨A',f1,f2,f3⟩:=hfill
 have hrun:(execOp a.eval o).run C.P w=.ok (.value (.slice (some ⟨w.heap.size,0,none⟩) n n)) (w.alloc (.cells A' el)):=by
  have hp:(parts.map fun (i,x)=>(i,a.eval x)).toList=parts.toList.map fun q=>(q.1,a.eval q.2):=by simp
  unfold madeCells at f1
  have hsm:¬ (16777216 < n * zs.length):=by omega
  have key:(Instr.buildSlice t n (parts.map fun (i,x)=>(i,a.eval x))).run C.P w=.ok (.slice (some ⟨w.heap.size,0,none⟩) n n) (w.alloc (.cells A' el)):=by
   by_cases h0:n * zs.length=0
   ·have hn0:n=0:=by
     rcases Nat.mul_eq_zero.1 h0 with h | h
     ·exact h
     ·omega
    have hpl:parts=#[]:=by rw [←Array.toList_inj];exact List.eq_nil_of_length_eq_zero (by omega)
    subst hn0
    subst hpl
    have hA:A'=#[]:=by
     have:=f2
     simp at this
     exact this
    subst hA
    simp [Instr.buildSlice,run_underlying hu,sizeOf,typeInfo,h1,h3,Instr.fill,newRow,Array.range_zero']
   ·rw [if_neg h0] at f1
    simp [Instr.buildSlice,run_underlying hu,sizeOf,typeInfo,zeroValue,h1,h2,h3,hsm,h0,hp,f1,newRow]
  simp only [execOp,ho]
  simp [key]
 unfold Oper.wp
 rw [hrun]
 have hlen:(parts.toList.flatMap fun q=>(a.eval q.2).cells.toList).length=n * zs.length:=by
  rw [←j3.1,(jqa p3).1,hn]
 have hrow:RowR (w.alloc (.cells A' el)) el zs.length (fun k=>k=w.heap.size∨θ k) rows (.slice (some ⟨w.heap.size,0,none⟩) n n):=by
  have:=RowR.mk (w:=w.alloc (.cells A' el)) (e:=el) (sz:=zs.length) (φ:=fun k=>k=w.heap.size∨θ k) (xs:=rows) (g:=w.heap.size) (o:=0) (cap:=n) (cur:=A') hpos (heap_alloc_new w _) (.inl rfl) (by omega) (by omega) p3 (by
   have e:(A'.toList.drop 0).take (rows.length * zs.length)=(parts.toList.flatMap fun q=>(a.eval q.2).cells.toList):=by
    apply List.ext_getElem?
    intro j
    rw [List.drop_zero,List.getElem?_take,hn,Array.getElem?_toList,f3 j]
    split
    ·rfl
    ·rw [List.getElem?_eq_none];omega
   rw [e]
   exact j3.mono (fun k hk=>⟨.inr hk,fun e=>by have:=(j4 k hk).1;omega⟩) (fun k hk=>heap_alloc_old w _ k (j4 k hk).1))
  rw [hn] at this
  exact this
 obtain ⟨b1,b2,b3⟩:=jnd j1
 obtain ⟨i1,i2,i3⟩:=jlp (n:=s) j1 (jrd w _) hnone hrow hE (fun j hj=>by
  rcases hj with rfl | hj
  ·exact ⟨by rw [joa];omega,b1,b2⟩
  ·exact ⟨by rw [joa];have:=(j4 j hj).1;omega,(j4 j hj).2⟩) (fun j m hj hm hφ=>by
  rcases hj with rfl | hj
  ·exact b3 m hm hφ
  ·exact j6 j m hj hm hφ)
 exact hK _ _ _ i1 i2 (j7.trans i3)
end Go.Den

/- Cells written into an element of an own row. -/
namespace Go.Den
open Go
variable {C:Ctx} {R:Rt} {G G0:Gh} {st st1:St} {a:Act} {w w':World} {o:Oper} {v:SV}

theorem jof {α:Type} (xs ys:List α) (b:Nat) (h:b+ys.length≤xs.length) (j:Nat):(xs.take b++ys++xs.drop (b+ys.length))[j]? = if b≤j∧j < b+ys.length then ys[j - b]? else xs[j]?:=by
 have hlen:(xs.take b).length=b:=by simp;omega
 by_cases h1:j < b
 ·rw [if_neg (by omega),List.append_assoc,List.getElem?_append_left (by omega),List.getElem?_take,if_pos h1]
 ·by_cases h2:j < b+ys.length
  ·rw [if_pos ⟨by omega,h2⟩,List.getElem?_append_left (by simp;omega),List.getElem?_append_right (by omega),hlen]
  ·rw [if_neg (by omega),List.getElem?_append_right (by simp;omega),List.getElem?_drop]
   congr 1
   simp
   omega
theorem Els.put {φ θ:Nat→Prop} {ds es:List D} {us vs:List Value} (H:Els w φ ds us) (K:Els w θ es vs) (hd:∀k,φ k→θ k→False) (b:Nat) (hl:b+es.length≤ds.length) :
  Els w (fun k=>φ k∨θ k) (ds.take b++es++ds.drop (b+es.length)) (us.take b++vs++us.drop (b+vs.length)):=by
 obtain ⟨h1,ψ,h2,h3,h4⟩:=H
 obtain ⟨k1,χ,k2,k3,k4⟩:=K
 refine ⟨by simp;omega,fun j=>if b≤j∧j < b+es.length then χ (j - b) else ψ j,fun j k h=>?_,fun j j' k h h'=>?_,fun j d u e f=>?_⟩
 ·dsimp only at h
  split at h
  ·exact .inr (k2 _ _ h)
  ·exact .inl (h2 _ _ h)
 ·dsimp only at h h'
  split at h<;>split at h'
  ·have:=k3 _ _ _ h h';omega
  ·exact (hd k (h2 _ _ h') (k2 _ _ h)).elim
  ·exact (hd k (h2 _ _ h) (k2 _ _ h')).elim
  ·exact h3 _ _ _ h h'
 ·rw [jof ds es b hl] at e
  rw [jof us vs b (by omega),←k1] at f
  dsimp only
  split
  ·rename_i hj
   rw [if_pos hj] at e f
   exact k4 _ d u e f
  ·rename_i hj
   rw [if_neg hj] at e f
   exact h4 j d u e f
theorem jji {sz off:Nat} {xs:List D}:∀{rs:List (List D)} {i:Nat},(∀r∈rs,r.length=sz)→i < rs.length→off+xs.length≤sz →
  (rs.modify i fun r=>r.take off++xs++r.drop (off+xs.length)).flatten=rs.flatten.take (i * sz+off)++xs++rs.flatten.drop (i * sz+off+xs.length)
 | [],i,_,hi,_=>by simp at hi
 | r :: rs,0,h,hi,hl=>by
  have hr:r.length=sz:=h r (by simp)
  simp only [List.modify_zero_cons,List.flatten_cons,Nat.zero_mul,Nat.zero_add]
  rw [List.take_append_of_le_length (by omega),List.drop_append_of_le_length (by omega),List.append_assoc,List.append_assoc]
 | r :: rs,i+1,h,hi,hl=>by
  have hr:r.length=sz:=h r (by simp)
  have ih:=jji (off:=off) (xs:=xs) (fun q hq=>h q (by simp [hq])) (by simpa using hi:i < rs.length) hl
  simp only [List.modify_succ_cons,List.flatten_cons,ih]
  have e1:(i+1) * sz=sz+i * sz:=by rw [Nat.add_mul];omega
  have t1:List.take ((i+1) * sz+off) (r++rs.flatten)=r++List.take (i * sz+off) rs.flatten:=by
   rw [List.take_append,List.take_of_length_le (by omega),show (i+1) * sz+off - r.length=i * sz+off by omega]
  have t2:List.drop ((i+1) * sz+off+xs.length) (r++rs.flatten)=List.drop (i * sz+off+xs.length) rs.flatten:=by
   rw [List.drop_append,List.drop_eq_nil_of_le (by omega),List.nil_append,show (i+1) * sz+off+xs.length - r.length=i * sz+off+xs.length by omega]
  rw [t1,t2,List.append_assoc,List.append_assoc,List.append_assoc]
theorem jnn {sz off:Nat} {xs:List D} {rs:List (List D)} {i:Nat} (h:∀r∈rs,r.length=sz) (hl:off+xs.length≤sz):∀r∈rs.modify i fun r=>r.take off++xs++r.drop (off+xs.length),r.length=sz:=by
 intro r hr
 obtain ⟨j,hj⟩:=List.getElem?_of_mem hr
 simp only [List.getElem?_modify,Option.map_eq_map,Option.map_eq_some_iff] at hj
 obtain ⟨q,h1,h2⟩:=hj
 have hq:q.length=sz:=h q (List.mem_of_getElem? h1)
 split at h2
 ·subst h2;simp;omega
 ·subst h2;exact hq
theorem jhu {t:TypeId} {x:SV} (h:fits C.P t x=true):okSV x=true∧okTy (tyOf C.P t)=true∧(cellsOf x).length=(tyOf C.P t).size:=by
 simp only [fits,Bool.and_eq_true,decide_eq_true_eq] at h
 exact ⟨h.1.1,h.1.2,h.2⟩

theorem jzt {t:TypeId} {p x:Operand} (H:Inv C R G st a w) (ho:o.op=.store t p x) (h:store C st t (ev C st [] p) (ev C st [] x)=some (true,st1)):jfd C R G st a w o .undef st1:=by
 unfold store at h
 split at h
 ·rename_i hfit
  obtain ⟨hok,hk,hsz⟩:=jhu hfit
  split at h
  ·rename_i n off hp
   split at h
   ·rename_i cs hb
    split at h
    ·rename_i hl
     cases h
     exact jun H ho hp hb hok hk hl hsz
    ·cases h
   ·cases h
  ·rename_i n i off hp
   split at h
   ·rename_i xs st2 htk
    split at h
    ·rename_i e sz rs hrow
     ·simp only [Option.some.injEq,Prod.mk.injEq,decide_eq_true_eq] at h
      obtain ⟨⟨hl,hi⟩,rfl⟩:=h
      intro K Q hK
      obtain ⟨hlive,e0,sz0,xs0,hb0,g,b,len,cap,hhv,hpv⟩:=H.evE hp
      obtain ⟨c1,c2⟩:=jsb (H.ev x) hok
      obtain ⟨G1,θ,i1,i2,i3,i4,i5,i6,i7,i8⟩:=jze (cellsOf (ev C st [] x)) (a.eval x).cells.toList st G xs st2 H (Gle.refl G) (Has.refl _ _) ⟨by simpa using c1,fun j y hj=>by obtain ⟨u,k1,k2,k3⟩:=c2 j y hj;exact ⟨u,by simpa using k1,k2,k3⟩⟩ htk
      obtain ⟨s1,s2,s3,s4⟩:=(i3 n _ hrow).2 hlive
      obtain ⟨ys,hys⟩:=s4 e0 sz0 xs0 hb0
      rw [hrow] at hys
      cases hys
      obtain ⟨bb,hb',hbr⟩:=i1.B.rel n s1 id
      rw [hrow] at hb';cases hb'
      obtain ⟨r1,r2,r3,r4⟩:=hbr
      rcases RowR.els r3 (r1.some (by rintro rfl;simp at hi)) with ⟨h1,_⟩ | ⟨g',o',cap',t',cur,h1,h2,h3,h4,h5,h6,h7⟩
      ·rw [s3,hhv] at h1;cases h1
      ·have h1':=h1
       rw [s3,hhv] at h1
       simp only [Value.slice.injEq,Option.some.injEq,Addr.mk.injEq,and_true] at h1
       obtain ⟨⟨rfl,rfl⟩,rfl,rfl⟩:=h1
       have hxl:xs.length=(a.eval x).cells.size:=by rw [jek htk,c1]
       have e1:(i+1) * sz≤rs.length * sz:=Nat.mul_le_mul_right _ hi
       have e2:rs.length * sz≤cap * sz:=Nat.mul_le_mul_right _ h4
       rw [Nat.add_mul,Nat.one_mul] at e1
       have hl':b+i * sz+off+(a.eval x).cells.toList.length≤cur.size:=by simp only [Array.length_toList];omega
       have hone:∀(j:Nat) u,(a.eval x).cells[j]? = some u→u.oneCell'=true:=fun j u hu=>i4.one u (by rw [←Array.getElem?_toList] at hu;exact List.mem_of_getElem? hu)
       have hst:=jmq (P:=C.P) (w:=w) hk (by rw [c1,hsz]) h2 (by simpa using hl') hone
       obtain ⟨p1,p2⟩:=jwk cur (b+i * sz+off) (a.eval x).cells.toList hl'
       generalize hcur':(cur.toList.take (b+i * sz+off)++(a.eval x).cells.toList++cur.toList.drop (b+i * sz+off+(a.eval x).cells.toList.length)).toArray=cur' at hst p1 p2
       have hr:(execOp a.eval o).run C.P w=.ok .skip (w.setRow g cur'):=by
        simp only [execOp,ho,hpv]
        simp [hst]
       unfold Oper.wp
       rw [hr]
       have hrw:=jxh (cur':=cur') h2 p1
       have hgφ:∀k,θ k→k≠g:=fun k hk e=>by subst e;exact i7 k n hk s1 id h3
       have hmn:=i1.B.mine n s1 id
       obtain ⟨f1,f2⟩:=jqa h6
       have hsame:∀k,k≠g→(w.setRow g cur').heap[k]? = w.heap[k]?:=fun k hk=>setRow_other w g k _ hk
       have hml:=jnn (i:=i) h6 hl
       have hrow':RowR (w.setRow g cur') e sz (fun k=>G1.φ n k∨θ k) (rs.modify i fun r=>r.take off++xs++r.drop (off+xs.length)) (G1.hv n):=by
        have hE:=(h7.put i4 (fun k hk hk'=>i7 k n hk' s1 id hk.1) (i * sz+off) (by rw [f1];omega)).mono (w':=w.setRow g cur') (φ':=fun k=>(G1.φ n k∨θ k)∧k≠g) (fun k hk=>by rcases hk with hk | hk;exact ⟨.inl hk.1,hk.2⟩;exact ⟨.inr hk,hgφ k hk⟩) (fun k hk=>hsame k (by rcases hk with hk | hk;exact hk.2;exact hgφ k hk))
        rw [←jji h6 hi hl] at hE
        have:=RowR.mk (e:=e) (xs:=rs.modify i fun r=>r.take off++xs++r.drop (off+xs.length)) (o:=b) (cap:=cap) (cur:=cur') (φ:=fun k=>G1.φ n k∨θ k) r3 hrw.now (.inl h3) (by simpa using h4) (by rw [p1];exact h5) hml (by
         have e:((cur'.toList.drop b).take ((rs.modify i fun r=>r.take off++xs++r.drop (off+xs.length)).length * sz))=(((cur.toList.drop b).take (rs.length * sz)).take (i * sz+off)++(a.eval x).cells.toList++((cur.toList.drop b).take (rs.length * sz)).drop (i * sz+off+(a.eval x).cells.toList.length)):=by
          apply List.ext_getElem?
          intro j
          rw [jof _ _ _ (by simp;omega),List.length_modify,List.getElem?_take,List.getElem?_take,List.getElem?_drop,List.getElem?_drop,Array.getElem?_toList,Array.getElem?_toList,p2]
          simp only [Array.length_toList]
          by_cases hj:i * sz+off≤j∧j < i * sz+off+(a.eval x).cells.size
          ·have hlt:j < rs.length * sz:=by omega
           rw [if_pos hlt,if_pos (by omega),if_pos hj,←Array.getElem?_toList]
           congr 1
           omega
          ·rw [if_neg (show ¬ (b+i * sz+off≤b+j∧b+j < b+i * sz+off+(a.eval x).cells.size) by omega),if_neg hj,Array.getElem?_toList]
         rw [e]
         exact hE)
        rw [List.length_modify] at this
        rw [h1']
        exact this
       have hθn:∀k m,θ k→G1.live m→G1.φ m k→False:=fun k m hk hm hφ=>i7 k m hk hm id hφ
       obtain ⟨j1,j2⟩:=jwu (ψ:=fun k=>G1.φ n k∨θ k) i1 s1 hrow (hrw.winv i1.W (hmn g h3).2 (fun lo hi hlb=>(r4 g lo hi h3 hlb).elim)) (Nat.le_of_eq hrw.size.symm) (fun m hm hmn' k hk=>hsame k (fun e=>by subst e;exact i1.B.disj n m s1 id hm id (Ne.symm hmn') k h3 hk)) hrow'
        (fun k hk=>by
         rw [hrw.size]
         rcases hk with hk | hk
         ·exact ⟨(hmn k hk).1,(hmn k hk).2,fun lo hi=>r4 k lo hi hk⟩
         ·exact i5 k hk)
        (fun k m hk hm hmn' hφ=>by
         rcases hk with hk | hk
         ·exact i1.B.disj n m s1 id hm id (Ne.symm hmn') k hk hφ
         ·exact hθn k m hk hm hφ)
       exact hK _ _ _ j1 trivial (i8.trans j2)
    ·cases h
   ·cases h
  ·cases h
 ·cases h
end Go.Den

/- Append. -/
namespace Go.Den
open Go
variable {C:Ctx} {R:Rt} {G G0:Gh} {st st1:St} {a:Act} {w w':World} {o:Oper} {v:SV}

theorem jmy {T:Nat→Prop} {d:D} {u:Value} (hs:isSc d=true) (h:Rep w T d u):u=dv d:=by
 cases h with
 | nil A cap=>cases hs
 | l=>cases hs
 | _=>rfl
theorem own_dv {φ ψ:Nat→Prop} {d:D} {u:Value} (hs:isSc d=true) (h:OwnD w φ d u):u=dv d∧OwnD w ψ d u:=by
 cases h with
 | nil=>cases hs
 | l=>cases hs
 | b=>exact ⟨rfl,.b _ _⟩
 | i=>exact ⟨rfl,.i _ _ _⟩
 | s=>exact ⟨rfl,.s _ _⟩
theorem dv_own {φ:Nat→Prop} {d:D} (hs:isSc d=true):OwnD w φ d (dv d):=by
 cases d with
 | b x=>exact .b _ _
 | i k n=>exact .i _ _ _
 | s x=>exact .s _ _
 | l xs=>cases hs
theorem jes:∀{xs:List D},allSc xs=true→∀d∈xs,isSc d=true
 | [],_,d,h=>by simp at h
 | x :: xs,h,d,hd=>by
  simp only [allSc,Bool.and_eq_true] at h
  simp only [List.mem_cons] at hd
  rcases hd with rfl | hd
  ·exact h.1
  ·exact jes h.2 d hd
theorem jum {sz:Nat}:∀{xs:List (List D)},flatR sz xs=true→(∀r∈xs,r.length=sz)∧∀d∈xs.flatten,isSc d=true
 | [],_=>by simp
 | r :: rs,h=>by
  simp only [flatR,Bool.and_eq_true,decide_eq_true_eq] at h
  obtain ⟨h1,h2⟩:=jum h.2
  refine ⟨fun q hq=>?_,fun d hd=>?_⟩
  ·simp only [List.mem_cons] at hq;rcases hq with rfl | hq;exact h.1.1;exact h1 q hq
  ·simp only [List.flatten_cons,List.mem_append] at hd;rcases hd with hd | hd;exact jes h.1.2 d hd;exact h2 d hd
theorem jix {ds:List D} (h:∀d∈ds,isSc d=true):Els w (fun _=>False) ds (ds.map dv) :=
 Els.flat (by simp) fun j d u h1 h2=>by
  rw [List.getElem?_map,h1] at h2
  simp at h2;subst h2
  exact dv_own (h d (List.mem_of_getElem? h1))

structure SrcOk (C:Ctx) (R:Rt) (G:Gh) (st:St) (a:Act) (w:World) (sz:Nat) (val:Value) (ys:List (List D)) (st1:St) (G1:Gh) (θ:Nat→Prop) (news:List Value):Prop where
 val:∃A c,val=.slice A ys.length c∧(A=none→ys=[])∧∀b,A=some b→∀(j:Nat) u,news[j]? = some u→w.cell? (b.add j)=some u
 inv:Inv C R G1 st1 a w
 gle:Gle G1 G
 has:Has G st.h G1 st1.h
 els:Els w θ ys.flatten news
 len:∀r∈ys,r.length=sz
 mine:∀k,θ k→k < w.heap.size∧(R.L k∨R.w0.heap.size≤k)∧∀lo hi,¬ R.LB k lo hi
 apart:∀k n,θ k→G1.live n→G1.φ n k→False
 fr:Fr G st.h G1 st1.h
theorem jlk {zs:List D} {y:SV} {val:Value} {ys:List (List D)} (H:Inv C R G st a w) (hy:VRel R G st.h y val) (h0:0 < zs.length) (h:source zs st y=some (true,ys,st1)):∃G1 θ news,SrcOk C R G st a w zs.length val ys st1 G1 θ news:=by
 unfold source at h
 split at h
 ·rename_i n
  split at h
  ·rename_i e sz xs hrow
   split at h
   ·rename_i hsz
    obtain ⟨hsz,hwk⟩:=hsz
    obtain ⟨hl,hv,_⟩:=hy
    obtain ⟨b,hb,hbr⟩:=H.B.rel n hl id
    rw [hrow] at hb;cases hb
    obtain ⟨r1,r2,r3,r4⟩:=hbr
    have hmn:=H.B.mine n hl id
    split at h
    ·simp only [Option.some.injEq,Prod.mk.injEq] at h
     obtain ⟨hfl,rfl,rfl⟩:=h
     obtain ⟨f1,f2⟩:=jum hfl
     refine ⟨G,fun _=>False,xs.flatten.map dv,?_,H,Gle.refl G,Has.refl _ _,jix f2,by rw [←hsz];exact f1,fun _ h=>h.elim,fun _ _ h=>h.elim,Fr.refl _ _⟩
     rcases RowR.els r3 (r1.row hwk) with ⟨h1,h2⟩ | ⟨g,o,cap,t',cur,h1,h2,h3,h4,h5,h6,h7⟩
     ·exact ⟨none,0,by rw [hv,h1,h2];rfl,fun _=>h2,fun b hb=>by cases hb⟩
     ·refine ⟨some ⟨g,o,none⟩,cap,by rw [hv,h1],fun h=>(by cases h),fun b hb j u hj=>?_⟩
      cases hb
      rw [List.getElem?_map,Option.map_eq_some_iff] at hj
      obtain ⟨d,hd,rfl⟩:=hj
      obtain ⟨g1,ψ,g2,g3,g4⟩:=h7
      have hlt:j < xs.flatten.length:=(List.getElem?_eq_some_iff.1 hd).1
      have hlt':j < ((cur.toList.drop o).take (xs.length * sz)).length:=by omega
      have hu:=g4 j d _ hd (List.getElem?_eq_getElem hlt')
      obtain ⟨e1,_⟩:=own_dv (ψ:=fun _=>False) (f2 d (List.mem_of_getElem? hd)) hu
      have hget:=List.getElem?_eq_getElem hlt'
      rw [e1,List.getElem?_take] at hget
      split at hget
      ·rw [List.getElem?_drop,Array.getElem?_toList] at hget
       rw [jmb,cell_of_row w g _ cur t' (0,0) h2]
       exact hget
      ·cases hget
    ·simp only [Option.some.injEq,Prod.mk.injEq,true_and] at h
     obtain ⟨rfl,rfl⟩:=h
     rcases RowR.els r3 (r1.row hwk) with ⟨h1,h2⟩ | ⟨g,o,cap,t',cur,h1,h2,h3,h4,h5,h6,h7⟩
     ·refine ⟨G.drop n,fun _=>False,[],⟨none,0,by rw [hv,h1,h2];rfl,fun _=>h2,fun b hb=>by cases hb⟩,jch H hrow,(Gle.refl G).drop n,(Has.refl G st.h).give,by rw [h2];exact Els.nil _ _,by rw [h2];simp,fun _ h=>h.elim,fun _ _ h=>h.elim,jyl hl⟩
     ·refine ⟨G.drop n,fun k=>G.φ n k∧k≠g,_,⟨some ⟨g,o,none⟩,cap,by rw [hv,h1],fun h=>(by cases h),fun b hb j u hj=>?_⟩,jch H hrow,(Gle.refl G).drop n,(Has.refl G st.h).give,h7,by rw [←hsz];exact h6,fun k hk=>⟨(hmn k hk.1).1,(hmn k hk.1).2,fun lo hi=>r4 k lo hi hk.1⟩,fun k m hk hm hφ=>H.B.disj n m hl id hm.1 id (Ne.symm hm.2) k hk.1 hφ,jyl hl⟩
      cases hb
      rw [List.getElem?_take] at hj
      split at hj
      ·rw [List.getElem?_drop,Array.getElem?_toList] at hj
       rw [jmb,cell_of_row w g _ cur t' (0,0) h2]
       exact hj
      ·cases hj
   ·cases h
  ·cases h
 ·rename_i xs
  split at h
  ·simp only [Option.some.injEq,Prod.mk.injEq] at h
   obtain ⟨hfl,rfl,rfl⟩:=h
   obtain ⟨f1,f2⟩:=jum hfl
   have hrep:Rep R.w0 R.T (.l xs) val:=hy
   refine ⟨G,fun _=>False,xs.flatten.map dv,?_,H,Gle.refl G,Has.refl _ _,jix f2,f1,fun _ h=>h.elim,fun _ _ h=>h.elim,Fr.refl _ _⟩
   cases hrep with
   | nil A cap=>exact ⟨A,cap,rfl,fun _=>rfl,fun b _ j u hj=>by simp at hj⟩
   | l _ g o cap sz vl hne hT hcap hsz hc hr =>
    refine ⟨some ⟨g,o,none⟩,cap,rfl,fun h=>(by cases h),fun b hb j u hj=>?_⟩
    cases hb
    have hs0:sz=zs.length:=by
     cases xs with
     | nil=>exact absurd rfl hne
     | cons r rs=>rw [←hsz r (by simp),f1 r (by simp)]
    subst hs0
    rw [List.getElem?_map,Option.map_eq_some_iff] at hj
    obtain ⟨d,hd,rfl⟩:=hj
    have hjm:j=j / zs.length * zs.length+j % zs.length:=by have:=Nat.div_add_mod j zs.length;rw [Nat.mul_comm] at this;omega
    have hm:j % zs.length < zs.length:=Nat.mod_lt _ h0
    have hsc:=f2 d (List.mem_of_getElem? hd)
    rw [hjm,(jqa f1).2 _ _ hm,Option.bind_eq_some_iff] at hd
    obtain ⟨r,hd1,hd2⟩:=hd
    have h1:=hc _ _ _ _ hd1 hd2
    rw [←jmy hsc (hr _ _ _ _ hd1 hd2),jmb,H.here.cellT hT]
    have e:o+j=o+j / zs.length * zs.length+j % zs.length:=by omega
    rw [e]
    exact h1
  ·cases h
 ·cases h
  have hv:val=.slice none 0 0:=hy
  exact ⟨G,fun _=>False,[],⟨none,0,hv,fun _=>rfl,fun b hb=>by cases hb⟩,H,Gle.refl G,Has.refl _ _,Els.nil _ _,by simp,fun _ h=>h.elim,fun _ _ h=>h.elim,Fr.refl _ _⟩
 ·cases h

theorem jxs {P:Program} {t t' ty e e':TypeId} {B:Option Addr} {n k:Nat} {x:Value} (h:P.underlying t=some (.slice e)) (h':P.underlying t'=some (.slice e')):(Builtin.append_ #[t,t'] ty #[.slice B n k,x]).run P w=(Builtin.append_ #[t,t] ty #[.slice B n k,x]).run P w:=by
 simp [Builtin.append_,run_underlying h,run_underlying h']
theorem jtv {P:Program} {t t' ty e e':TypeId} {i:TypeInfo} {z:Value} {sz:Nat} {φ θ:Nat→Prop} {xs ys:List (List D)} {v:Value} {A:Option Addr} {c:Nat} {news:List Value}
  (ht:P.underlying t=some (.slice e)) (ht':P.underlying t'=some (.slice e')) (hi:P.info? e=some i) (hz:i.zero=some z) (hsz:i.size=sz) (hzs:z.cells.size=sz) (h0:0 < sz) (hb:i.bytes≤2048) (hlim:xs.length+ys.length≤lim)
  (hrow:RowR w e sz φ xs v) (hA:A=none→ys=[]) (hnews:∀b,A=some b→∀(j:Nat) u,news[j]? = some u→w.cell? (b.add j)=some u) (hE:Els w θ ys.flatten news) (hlen:∀r∈ys,r.length=sz) (hφ:∀k,φ k→k < w.heap.size) (hθ:∀k,θ k→k < w.heap.size) (hd:∀k,φ k→θ k→False) :
  ∃v' w',(Builtin.append_ #[t,t'] ty #[v,.slice A ys.length c]).run P w=.ok v' w'∧RowR w' e sz (fun k=>φ k∨θ k∨(k=w.heap.size∧k < w'.heap.size)) (xs++ys) v'∧w'.os=w.os∧w'.tape=w.tape∧w'.output=w.output∧w.heap.size≤w'.heap.size∧∀k,k < w.heap.size→¬ φ k→w'.heap[k]? = w.heap[k]?:=by
 subst hsz
 have hty:(Builtin.append_ #[t,t'] ty #[v,.slice A ys.length c]).run P w=(Builtin.append_ #[t,t] ty #[v,.slice A ys.length c]).run P w:=by
  obtain ⟨A',cap',hv⟩:=jsl hrow
  rw [hv]
  exact jxs ht ht'
 rw [hty]
 have hl:lim=68719476736:=rfl
 have hnl:news.length=ys.length * i.size:=by rw [←hE.1,(jqa hlen).1]
 have hbytes:(xs.length+ys.length) * i.bytes≤140737488355328:=by
  have:(xs.length+ys.length) * i.bytes≤68719476736 * 2048:=Nat.mul_le_mul (by omega) hb
  omega
 have hone:=hE.one
 have hsame:(∀k,φ k→φ k∨θ k∨(k=w.heap.size∧k < w.heap.size)):=fun k h=>.inl h
 rcases RowR.els h0 hrow with ⟨rfl,rfl⟩ | ⟨g,o,cap,t',cur,rfl,h2,h3,h4,h5,h6,h7⟩
 ·by_cases hm:ys=[]
  ·subst hm
   refine ⟨.slice none 0 0,w,?_,.inl ⟨rfl,rfl⟩,rfl,rfl,rfl,Nat.le_refl _,fun _ _ _=>rfl⟩
   cases A<;>simp [Builtin.append_,run_underlying ht,sizeOf,typeInfo,hi,Builtin.lenOf,Builtin.firstCells,loadCells,loadCellsFrom]
  ·cases A with
   | none=>exact absurd (hA rfl) hm
   | some b =>
    have hpos:0 < ys.length:=List.length_pos_iff.2 hm
    have hr:=run_append_nil (P:=P) w t ty e i z ht hi hz b ys.length c news hnl (hnews b rfl) hpos (by omega) (by simp at hbytes;omega)
    have hge:=grownCap_ge w ys.length 0 e
    refine ⟨_,_,hr,?_,rfl,rfl,rfl,by rw [joa];show w.heap.size≤w.heap.size+1;omega,fun k hk _=>heap_alloc_old w.drew _ k hk⟩
    simp only [List.nil_append]
    refine RowR.mk (w:=w.drew.alloc _) h0 (heap_alloc_new w.drew _) (.inr (.inr ⟨rfl,by rw [joa];show w.heap.size < w.heap.size+1;omega⟩)) hge ?_ hlen ?_
    ·simp only [Array.size_append,List.size_toArray,size_zeroCells,hzs,hnl,←Nat.add_mul]
     rw [show ys.length+(grownCap w ys.length 0 e - ys.length)=grownCap w ys.length 0 e by omega]
     omega
    ·have e1:((news.toArray++Builtin.zeroCells z.cells (grownCap w ys.length 0 e - ys.length)).toList.drop 0).take (ys.length * i.size)=news:=by
      simp only [Array.toList_append,List.drop_zero]
      rw [←hnl,List.take_left]
     rw [e1]
     exact hE.mono (fun k hk=>⟨.inr (.inl hk),fun e=>by have:=hθ k hk;omega⟩) (fun k hk=>heap_alloc_old w.drew _ k (hθ k hk))
 ·have hgh:g < w.heap.size:=hφ g h3
  have hlen':∀r∈xs++ys,r.length=i.size:=fun r hr=>by rcases List.mem_append.1 hr with hr | hr;exact h6 r hr;exact hlen r hr
  have e0:(xs++ys).length * i.size=xs.length * i.size+ys.length * i.size:=by rw [List.length_append,Nat.add_mul]
  have holdl:((cur.toList.drop o).take (xs.length * i.size)).length=xs.length * i.size:=by rw [←h7.1,(jqa h6).1]
  by_cases hroom:xs.length+ys.length≤cap
  ·have e2:(xs.length+ys.length) * i.size≤cap * i.size:=Nat.mul_le_mul_right _ hroom
   rw [Nat.add_mul] at e2
   have hfit:o+xs.length * i.size+news.length≤cur.size:=by omega
   have hst:=run_storeCells_at P g (o+xs.length * i.size) t' news 0 cur w h2 (by simpa using hfit) hone
   simp only [Nat.add_zero] at hst
   obtain ⟨p1,p2⟩:=jwk cur (o+xs.length * i.size) news hfit
   generalize hcur':(cur.toList.take (o+xs.length * i.size)++news++cur.toList.drop (o+xs.length * i.size+news.length)).toArray=cur' at hst p1 p2
   have hrw:=jxh (cur':=cur') h2 p1
   have hr:(Builtin.append_ #[t,t] ty #[.slice (some ⟨g,o,none⟩) xs.length cap,.slice A ys.length c]).run P w=.ok (.slice (some ⟨g,o,none⟩) (xs++ys).length cap) (w.setRow g cur'):=by
    have hf:(Builtin.firstCells i.size ys.length (.slice A ys.length c)).run P w=.ok news.toArray w:=by
     cases A with
     | none =>
      have:=hA rfl
      subst this
      have:news=[]:=List.eq_nil_of_length_eq_zero (by simpa using hnl)
      subst this
      exact run_firstCells_none w _ _ _ _
     | some b=>exact run_firstCells_some (P:=P) w i.size ys.length b ys.length c news hnl (hnews b rfl)
    have hroom':¬ cap < xs.length+ys.length:=by omega
    simp [Builtin.append_,run_underlying ht,sizeOf,typeInfo,hi,Builtin.lenOf,hroom,hf,jmb,hst]
   refine ⟨_,_,hr,?_,rfl,rfl,rfl,Nat.le_of_eq hrw.size.symm,fun k hk hnφ=>setRow_other w g k _ (fun e=>hnφ (e ▸ h3))⟩
   refine RowR.mk h0 hrw.now (.inl h3) (by rw [List.length_append];exact hroom) (by rw [p1];exact h5) hlen' ?_
   have e1:(cur'.toList.drop o).take ((xs++ys).length * i.size)=(cur.toList.drop o).take (xs.length * i.size)++news:=by
    apply List.ext_getElem?
    intro j
    rw [e0,List.getElem?_take,List.getElem?_drop,Array.getElem?_toList,p2]
    by_cases hj:j < xs.length * i.size
    ·rw [if_pos (by omega),if_neg (by omega),List.getElem?_append_left (by omega),List.getElem?_take,if_pos hj,List.getElem?_drop,Array.getElem?_toList]
    ·rw [List.getElem?_append_right (by omega),holdl]
     by_cases hj2:j < xs.length * i.size+ys.length * i.size
     ·rw [if_pos hj2,if_pos (by omega)]
      congr 1
      omega
     ·rw [if_neg hj2,List.getElem?_eq_none (by omega)]
   rw [e1,List.flatten_append]
   exact (h7.append hE (fun k hk hk'=>hd k hk.1 hk')).mono (fun k hk=>by
    rcases hk with hk | hk
    ·exact ⟨.inl hk.1,hk.2⟩
    ·exact ⟨.inr (.inl hk),fun e=>hd k (e ▸ h3) hk⟩) (fun k hk=>setRow_other w g k _ (by
    rcases hk with hk | hk
    ·exact hk.2
    ·exact fun e=>hd k (e ▸ h3) hk))
  ·cases A with
   | none=>have:=hA rfl;subst this;simp at hroom;omega
   | some b =>
    have holds:∀(j:Nat) u,((cur.toList.drop o).take (xs.length * i.size))[j]? = some u→w.cell? ((⟨g,o,none⟩:Addr).add j)=some u:=fun j u hj=>by
     rw [List.getElem?_take] at hj
     split at hj
     ·rw [List.getElem?_drop,Array.getElem?_toList] at hj
      rw [jmb,cell_of_row w g _ cur t' (0,0) h2]
      exact hj
     ·cases hj
    have hr:=run_append_grow (P:=P) w t ty e i z ht hi hz ⟨g,o,none⟩ xs.length cap _ holdl holds b ys.length c news hnl (hnews b rfl) (by omega) (by omega) (growslice_fits (by omega) hbytes)
    have hge:=grownCap_ge w (xs.length+ys.length) cap e
    refine ⟨_,_,hr,?_,rfl,rfl,rfl,by rw [joa];show w.heap.size≤w.heap.size+1;omega,fun k hk _=>heap_alloc_old w.drew _ k hk⟩
    rw [←List.length_append]
    refine RowR.mk (w:=w.drew.alloc _) h0 (heap_alloc_new w.drew _) (.inr (.inr ⟨rfl,by rw [joa];show w.heap.size < w.heap.size+1;omega⟩)) (by rw [List.length_append];exact hge) ?_ hlen' ?_
    ·simp only [Array.size_append,List.size_toArray,size_zeroCells,hzs,hnl,holdl,←Nat.add_mul]
     rw [List.length_append,show xs.length+ys.length+(grownCap w (xs.length+ys.length) cap e - (xs.length+ys.length))=grownCap w (xs.length+ys.length) cap e by omega]
     omega
    ·rw [e0]
     simp only [Array.toList_append,List.drop_zero,List.append_assoc]
     rw [List.flatten_append]
     have e1:∀zz:List Value,((cur.toList.drop o).take (xs.length * i.size)++(news++zz)).take (xs.length * i.size+ys.length * i.size)=(cur.toList.drop o).take (xs.length * i.size)++news:=fun zz=>by
      rw [←List.append_assoc]
      exact List.take_left' (by rw [List.length_append,holdl,hnl])
     rw [e1]
     exact (h7.append hE (fun k hk hk'=>hd k hk.1 hk')).mono (fun k hk=>by
      rcases hk with hk | hk
      ·exact ⟨.inl hk.1,fun e=>by have:=hφ k hk.1;omega⟩
      ·exact ⟨.inr (.inl hk),fun e=>by have:=hθ k hk;omega⟩) (fun k hk=>heap_alloc_old w.drew _ k (by
      rcases hk with hk | hk
      ·exact hφ k hk.1
      ·exact hθ k hk))
end Go.Den
