/- The evaluator of Go code over plain data, and its soundness: part 7 of 9. -/
import Derived.Test.YtbmgnecedmcneaaGreatDm6
import Derived.LoopN
set_option linter.unusedVariables false
set_option linter.unusedSimpArgs false
/- Draw regions, last part: every order comes to what den says. -/
namespace Go.Den
open Go
variable {C:Ctx} {R:Rt} {G G' G0 G1:Gh} {st st1 st2 σ σ1 σ2 s s1 s2:St} {a a':Act} {w w':World} {o:Oper} {v x:SV} {ops:Array Oper} {ms:List Nat} {X:Nat→Prop} {n:Nat} {done:List (Nat × Nat)} {suf:List (Nat × Nat × List Nat)}

theorem jon {hs bs:List Nat}:∀{js:List Nat},jjf C ops st hs bs js=true→∀j∈js,jrn C ops st hs bs j=true
 | [],_,j,hj=>by simp at hj
 | i :: js,h,j,hj=>by
  simp only [jjf,Bool.and_eq_true] at h
  rcases List.mem_cons.1 hj with rfl | hj
  ·exact h.1
  ·exact jon h.2 j hj
theorem jfr {hs:List Nat}:∀{ts:List Nat},jur C st hs ts=true→∀t∈ts,calm C st hs t=true
 | [],_,t,ht=>by simp at ht
 | x :: ts,h,t,ht=>by
  simp only [jur,Bool.and_eq_true] at h
  rcases List.mem_cons.1 ht with rfl | ht
  ·exact h.1
  ·exact jfr h.2 t ht
theorem jho {hs:List Nat}:∀{ts:List Nat},jjo C st hs ts=true→∀t∈ts,jgo C st hs t=true
 | [],_,t,ht=>by simp at ht
 | x :: ts,h,t,ht=>by
  simp only [jjo,Bool.and_eq_true] at h
  rcases List.mem_cons.1 ht with rfl | ht
  ·exact h.1
  ·exact jho h.2 t ht
theorem jau {i:Nat} {hs bs:List Nat} (A:Frm hs bs s s1) (hf:jrn C ops s hs bs i=true) (H:again C ops s i):again C ops s1 i:=by
 unfold jrn at hf
 unfold again at H ⊢
 cases ho:ops[i]? with
 | none=>rw [ho] at H;exact H
 | some o =>
  rw [ho] at H hf
  dsimp only at H hf ⊢
  rw [Bool.and_eq_true] at hf
  have both:(∀t∈o.looksAt ops,lk s1.l t=lk s.l t)∧∀p,light C s1 p o.op=light C s p o.op:=by
   by_cases hd:dry o.op=true
   ·have hf1:=hf.1
    rw [if_pos hd] at hf1
    have look:∀t∈o.looksAt ops,lk s1.l t=lk s.l t∧∀p,gt C s1 p t=gt C s p t:=fun t ht=>by
     obtain ⟨h1,_,h3⟩:=jxo (jho hf1 t ht) A
     exact ⟨h1,h3⟩
    exact ⟨fun t ht=>(look t ht).1,fun p=>jmx hd (fun t ht p=>(look t (jya ht)).2 p) p⟩
   ·have hf1:=hf.1
    rw [if_neg hd] at hf1
    have look:∀t∈o.looksAt ops,lk s1.l t=lk s.l t∧∀p,gt C s1 p t=gt C s p t∧SeeV s s1 (gt C s p t):=fun t ht=>by
     obtain ⟨h1,_,h3⟩:=jay (jfr hf1 t ht) A
     exact ⟨h1,h3⟩
    exact ⟨fun t ht=>(look t ht).1,fun p=>jsw (fun t ht p=>((look t (jya ht)).2 p).1) (fun t ht p=>((look t (jya ht)).2 p).2)⟩
  have e1:guardOf ops s1 o.guard=guardOf ops s o.guard:=jsh fun j b oj t hg hj ht=>both.1 t (jve hg hj ht)
  have e2:=both.2
  rw [e1]
  cases hg:guardOf ops s o.guard with
  | none=>rw [hg] at H;exact H
  | some pc =>
   obtain ⟨p,c⟩:=pc
   rw [hg] at H
   dsimp only at H ⊢
   rw [e2]
   cases hd:o.dst with
   | none=>rw [hd] at H;exact H
   | some t =>
    rw [hd] at H hf
    dsimp only at H hf ⊢
    obtain ⟨e3,e4,_⟩:=jxo hf.2 A
    have e5:holdsV C s1 t p c=holdsV C s t p c:=by
     unfold holdsV
     rw [e3]
     cases hl:lk s.l t with
     | some e=>rfl
     | none=>rw [hl] at e4;dsimp only at e4;rw [e4]
    rw [e5]
    exact H

def joh (x0:SV) (x:SV):Prop:=(∃n,x0=.ptr n 0∨x0=.own n)∧(x=x0∨x=.undef)
theorem jco {x0:SV} {n:Nat} (h:joh x0 x):joh x0 (killV n x):=by
 obtain ⟨⟨k,hk⟩,h⟩:=h
 refine ⟨⟨k,hk⟩,?_⟩
 rcases h with rfl | rfl
 ·rcases hk with rfl | rfl
  all_goals
   simp only [killV,killA,killC]
   split
   ·exact .inr rfl
   ·exact .inl rfl
 ·exact .inr rfl
theorem NewK.or {d:Nat} {b:Blk} {x0:SV} (h:NewK C o d b x0):∃n,x0=.ptr n 0∨x0=.own n:=by
 cases h
 ·exact ⟨_,.inl rfl⟩
 ·exact ⟨_,.inr rfl⟩
theorem jew {d n:Nat} {x0:SV} {m:List SV} {l:List (Nat × Path × Bool × SV)} {h h':List (Nat × Blk)} (e:∃x,holdsV C ⟨m,l,h⟩ d [] true=some x∧joh x0 x):∃x,holdsV C ⟨killM n m,killL n l,h'⟩ d [] true=some x∧joh x0 x:=by
 obtain ⟨x,h1,h2⟩:=e
 unfold holdsV at h1 ⊢
 dsimp only at h1 ⊢
 rw [jcb,jdc]
 by_cases hk:isIn C.keep d=true
 ·rw [if_pos hk] at h1 ⊢
  cases hl:lk l d with
  | none=>rw [hl] at h1;simp at h1;subst h1;exact ⟨_,rfl,jco h2⟩
  | some q=>rw [hl] at h1;cases h1
 ·rw [if_neg hk] at h1 ⊢
  cases hl:lk l d with
  | none=>rw [hl] at h1;cases h1
  | some q =>
   obtain ⟨q,c,y⟩:=q
   rw [hl] at h1
   dsimp only [Option.map] at h1 ⊢
   split at h1
   ·rename_i hc;rw [if_pos hc];cases h1;exact ⟨_,rfl,jco h2⟩
   ·cases h1
theorem jem {d:Nat} {x0:SV}:∀(ns:List Nat) {m:List SV} {l:List (Nat × Path × Bool × SV)} {h h':List (Nat × Blk)},(∃x,holdsV C ⟨m,l,h⟩ d [] true=some x∧joh x0 x)→∃x,holdsV C ⟨jva ns m,jpa ns l,h'⟩ d [] true=some x∧joh x0 x
 | [],m,l,h,h',e=>e
 | n :: ns,m,l,h,h',e=>jem ns (h:=h) (jew (h':=h) e)
theorem jux {d:Nat} {x0:SV} (A:Sim s s2 σ σ2) (e:∃x,holdsV C s d [] true=some x∧joh x0 x):∃x,holdsV C s2 d [] true=some x∧joh x0 x:=by
 obtain ⟨ns,a1,a2,_,_,_⟩:=A
 have:=jem (C:=C) (d:=d) (x0:=x0) ns (m:=s.m) (l:=s.l) (h:=s.h) (h':=s2.h) e
 rw [←a1,←a2] at this
 exact this
theorem jso:∀(ns:List Nat) (m:List SV),(jva ns m).length=m.length
 | [],m=>rfl
 | n :: ns,m=>by rw [jva,jso ns,jph]
theorem jrh (t:Nat):∀(ns:List Nat) (l:List (Nat × Path × Bool × SV)),(lk (jpa ns l) t).isSome=(lk l t).isSome
 | [],l=>rfl
 | n :: ns,l=>by rw [jpa,jrh t ns,jcb];cases lk l t<;>rfl

theorem Mid.turn {p:Path} {c:Bool} {i:Nat} {js:List Nat} {r:List (Nat × Nat × List Nat)} (M:Mid C R ops ms n X done ((i,1,js) :: r) s σ G a w) (K:Chk ops ms done i 1 js r o) (hr:∀j,bef ms i j=true→X j) (A:Sim s s2 σ σ2) (hF2:Frm (jtg hits C ops s o) (jtg hitsB C ops s o) s s2) (hag:jjf C ops s (jtg hits C ops s o) (jtg hitsB C ops s o) js=true)
  (hinv:Inv C R G' (pt C σ2 p c o.dst v) a' w') (hm:σ2.m.length=C.keep.length) (hsz:a'.tmps.size=a.tmps.size) (hF:Fr G σ.h G' σ2.h):Mid C R ops ms n (fun j=>X j∨j=i) ((i,1) :: done) r (pt C s2 p c o.dst v) (pt C σ2 p c o.dst v) G' a' w':=by
 have hX:¬ X i:=M.notX K.new
 have hsm:s2.m.length=C.keep.length:=by obtain ⟨ns,a1,_⟩:=A;rw [a1,jso];exact M.sm
 have hs2l:∀t,(lk s2.l t).isSome=(lk s.l t).isSome:=fun t=>by obtain ⟨ns,_,a2,_⟩:=A;rw [a2,jrh]
 have hσ2l:∀t,(lk σ2.l t).isSome=(lk σ.l t).isSome:=fun t=>by obtain ⟨ns,_,_,_,a4,_⟩:=A;rw [a4,jrh]
 have hnh:∀t,o.dst=some t→¬ Hid ops X done t:=fun t ht ⟨j,oj,h1,h2,h3,h4⟩=>by
  have:=M.one K.ho h3 ht h4;subst this;rw [K.new] at h1;cases h1
 have R2:=(M.rel.sim A).pt (v:=v) (p:=p) (c:=c) hnh hm hsm
 have hjs:∀j,hasD done j 0=true→¬ (X j∨j=i)→again C ops (pt C s2 p c o.dst v) j:=fun j hj hxj=>by
  rcases K.again rfl j hj with h | h
  ·exact absurd (.inl (hr j h)) hxj
  ·have h2:=jau hF2 (jon hag j h) (M.ag j hj (fun hx=>hxj (.inl hx)))
   refine jlm (pt_h _ _ _ _ _) (fun o' t ho' ht=>jgc (fun hd=>?_) hsm) h2
   rcases ht with ht | ht
   ·rcases M.rd j o' t i o (jpe hj) (fun hx=>hxj (.inl hx)) ho' ht K.ho hd with hb | ⟨hb,_⟩
    ·have:=M.wf.closed j i (jpe hj) (joc K.ho) hb
     rw [K.new] at this;cases this
    ·exact hxj (.inl (hr j hb))
   ·have:=M.one ho' K.ho ht hd
    exact hxj (.inr this)
 refine { dst:=M.dst,chk:=K.next,wf:=⟨fun j hj hb=>K.sub j hj hb,M.wf⟩,dx:=fun j hj=>?_,cl:=fun j k hj hb=>?_,tx:=fun j hj=>?_,kk:=fun j hj=>?_,rd:=fun j o' t k oj h1 h2 ho' ht hk hd=>?_,rel:=?_,ag:=fun j hj hxj=>?_,al:=fun j hj hxj=>?_,inv:=hinv,sm:=by rw [pt_m];exact hsm,lx:=?_,ls:=fun t ht=>?_,sz:=hsz.trans M.sz }
 ·rw [jda]
  rcases hj with hj | rfl
  ·exact .inr (M.dx j hj)
  ·exact .inl rfl
 ·rcases hj with hj | rfl
  ·exact .inl (M.cl j k hj hb)
  ·exact .inl (hr k hb)
 ·rw [jja] at hj
  rcases hj with ⟨rfl,_⟩ | hj
  ·exact .inr rfl
  ·exact .inl (M.tx j hj)
 ·rw [jda] at hj
  simp only [jja]
  rcases hj with rfl | hj
  ·exact .inr (.inl (by simp))
  ·rcases M.kk j hj with h | h | h
   ·exact .inl (.inr h)
   ·exact .inr (.inl (.inr h))
   ·exact .inr (.inr (.inr h))
 ·rw [jda] at h1
  rcases h1 with rfl | h1
  ·exact absurd (.inr rfl) h2
  ·rcases M.rd j o' t k oj h1 (fun h=>h2 (.inl h)) ho' ht hk hd with h | ⟨h,h'⟩
   ·exact .inl h
   ·simp only [job] at h'
    by_cases e:i=k
    ·subst e
     exact absurd (.inl (hr j h)) h2
    ·rw [if_neg e] at h'
     exact .inr ⟨h,h'⟩
 ·refine R2.congr fun t=>⟨fun ⟨j,oj,h1,h2,h3,h4⟩=>?_,fun ⟨j,oj,h1,h2,h3,h4⟩=>⟨j,oj,(jda _ _ _ _).2 (.inr h1),fun h=>?_,h3,h4⟩⟩
  ·rw [jda] at h1
   rcases h1 with rfl | h1
   ·exact absurd (.inr rfl) h2
   ·exact ⟨j,oj,h1,fun h=>h2 (.inl h),h3,h4⟩
  ·rcases h with h | rfl
   ·exact h2 h
   ·rw [K.new] at h1;cases h1
 ·rw [jja] at hj
  rcases hj with ⟨_,h⟩ | hj
  ·cases h
  ·exact hjs j hj hxj
 ·rw [jja] at hj
  rcases hj with ⟨_,h⟩ | hj
  ·cases h
  ·obtain ⟨o',d,b,y0,h1,h3,h4,h5,h6,y,h7,h8⟩:=M.al j hj (fun h=>hxj (.inl h))
   obtain ⟨z,h9,h10⟩:=jux (C:=C) (d:=d) (x0:=y0) A ⟨y,h7,h5.or,h8⟩
   have hne:o.dst≠some d:=fun e=>by
    have:=M.one h1 K.ho h4 e
    exact hxj (.inr this)
   obtain ⟨e3,e4⟩:=jgc (C:=C) (st:=s2) (p:=p) (c:=c) (v:=v) hne hsm
   exact ⟨o',d,b,y0,h1,h3,h4,h5,by rw [pt_h];exact hF _ _ h6,z,by rw [jxd e3 e4];exact h9,h10.2⟩
 ·exact lx_pt (fun t ht=>M.lx t (by rw [←hσ2l t];exact ht)) K.ho rfl
 ·unfold pt at ht
  cases hd:o.dst with
  | none=>rw [hd] at ht;exact M.ls t (by rw [←hs2l t];exact ht)
  | some d =>
   rw [hd] at ht
   dsimp only at ht
   split at ht
   ·exact M.ls t (by rw [←hs2l t];cases p<;>exact ht)
   ·rename_i hk
    simp only [lk] at ht
    split at ht
    ·rename_i e;subst e;simpa using hk
    ·exact M.ls t (by rw [←hs2l t];exact ht)

theorem Mid.hereOf {p:Path} (M:Mid C R ops ms n X done suf s σ G a w) (hp:jtb σ.l p true):Here C R G σ a w p:=⟨M.inv.W,M.inv.bare,M.inv.l,hp⟩
theorem Rel.atP {hid:Nat→Prop} (H:Rel C hid σ s) (p:Path):Rel C hid (atP p σ) (atP p s) :=
 ⟨H.h,fun t ht=>⟨by show lk (atL p σ.l) t=lk (atL p s.l) t;rw [jle,jle,(H.eq t ht).1],(H.eq t ht).2⟩,fun t ht=>by show lk (atL p σ.l) t=none;rw [jle,H.no t ht];rfl⟩
theorem killsV_d (d:D):∀ns:List Nat,jbf ns (.d d)=.d d
 | []=>rfl
 | n :: ns=>killsV_d d ns
theorem killsL_cons (t:Nat) (q:Path) (c:Bool) (v:SV) (r:List (Nat × Path × Bool × SV)):∀ns:List Nat,∀v:SV,jpa ns ((t,q,c,v) :: r)=(t,q,c,jbf ns v) :: jpa ns r:=by
 intro ns
 induction ns generalizing r with
 | nil=>intro v;rfl
 | cons n ns ih=>intro v;exact ih (killL n r) (killV n v)
theorem killsL_nil:∀ns:List Nat,jpa ns []=[]
 | []=>rfl
 | _ :: ns=>killsL_nil ns
theorem zipL_kills (p:Path) (ns:List Nat):∀l:List (Nat × Path × Bool × SV),zipL l (jpa ns (atL p l))=jpa ns l
 | []=>by rw [atL,killsL_nil];rfl
 | (t,q,c,v) :: r=>by
  rw [atL,killsL_cons t _ _ v _ ns v,killsL_cons t _ _ v _ ns v,zipL,zipL_kills p ns r]
theorem pathC_kills {l:List (Nat × Path × Bool × SV)} {p:Path} {c:Bool} (ns:List Nat) (h:jtb l p c):jtb (jpa ns l) p c:=by
 rcases h with h | ⟨q,t,b,c',x,h1,h2,h3⟩
 ·exact .inl h
 ·exact .inr ⟨q,t,b,c',x,h1,by rw [jik,h2];simp [killsV_d],h3⟩
theorem unatK_inv {p:Path} {st1:St} {G':Gh} {ns:List Nat} (H0:Inv C R G σ a w) (H1:Inv C R G' st1 a w') (el:st1.l=jpa ns (atP p σ).l):Inv C R G' ⟨st1.m,jpa ns σ.l,st1.h⟩ a w':=by
 refine ⟨H1.W,H1.B,H1.all,fun t=>?_,fun t q c v h=>?_,H1.m⟩
 ·have h0:=H0.slots t
  have h1:=H1.slots t
  unfold jma at h0 h1 ⊢
  dsimp only
  rw [el,jik,show lk (atP p σ).l t=_ from jle p σ.l t] at h1
  rw [jik]
  cases hl:lk σ.l t with
  | none=>rw [hl] at h1;exact h1
  | some e =>
   obtain ⟨q,c,v⟩:=e
   rw [hl] at h0 h1
   dsimp only [Option.map] at h0 h1 ⊢
   cases c with
   | false=>exact h0
   | true =>
    simp only [if_true]
    cases hs:strip p q with
    | nil=>rw [hs] at h1;exact h1
    | cons x r=>rw [hs] at h1;exact h1
 ·dsimp only at h
  rw [jik] at h
  cases hl:lk σ.l t with
  | none=>rw [hl] at h;cases h
  | some e =>
   obtain ⟨q',c',v'⟩:=e
   rw [hl] at h
   cases h
   exact pathC_kills ns (H0.l _ _ _ _ hl)
theorem Mid.step {Q:Exit→Act→World→Prop} {i:Nat} {p0:List Nat} (hlo:jub p0 ops.toList=true) (hC:CtxOk C) (M:Mid C R ops ms n X done suf s σ G a w) (hsuf:suf=[]∨∃i js r,suf=(i,1,js) :: r) (hrun:runDraw C ops suf s=some st2) (hi:i < ops.size) (hX:¬ X i) (hr:∀j,bef ms i j=true→X j) (K:Act→World→Prop)
  (hK:∀done' suf' s' σ' G' a' w',Mid C R ops ms n (fun j=>X j∨j=i) done' suf' s' σ' G' a' w'→runDraw C ops suf' s'=some st2→(suf'=[]∨∃i js r,suf'=(i,1,js) :: r)→jsa p0 a a'→K a' w'):wpOp C.P ops Q i K a w:=by
 obtain ⟨o,ho⟩:∃o,ops[i]? = some o:=⟨ops[i],by simp [hi]⟩
 have hst:∀val,jsa p0 a (a.put o.dst val):=fun val=>jqd (jjd hlo o (by rw [←Array.getElem?_toList] at ho;exact List.mem_of_getElem? ho))
 unfold wpOp
 rw [ho]
 dsimp only
 have hfree:∀t,o.dst=some t→lk σ.l t=none∧t < a.tmps.size:=fun t hd=>by
  refine ⟨?_,M.lt ho hd⟩
  cases he:lk σ.l t with
  | none=>rfl
  | some e =>
   obtain ⟨⟨j,oj,h1,h2,h3⟩,_⟩:=M.lx t (by rw [he];rfl)
   have:=M.one ho h2 hd h3
   subst this
   exact absurd h1 hX
 by_cases hdone:anyD done i=true
 ·have hv:=M.vis ho hdone hX hr
  rcases M.kk i hdone with h0 | h1 | h2
  ·-- changes nothing
   have hag:=M.ag i h0 hX
   unfold again at hag
   rw [ho] at hag
   dsimp only at hag
   cases hg:guardOf ops s o.guard with
   | none=>rw [hg] at hag;exact hag.elim
   | some pc =>
    obtain ⟨p,c⟩:=pc
    rw [hg] at hag
    dsimp only at hag
    obtain ⟨hp,hpc,hw⟩:=jdh M.inv (M.guard hv hg)
    rw [hw]
    have lc:∀p,Den.light C σ p o.op=Den.light C s p o.op:=fun p=>jye M.rel.h fun t ht q=>M.rel.gt (hv t (jya ht)) q
    -- the slot's value
    have hag':∃x,(∀t,o.dst=some t→holdsV C s t p c=some x)∧(c=false∨∃v,Den.light C s p o.op=some (true,v)∧(x=.undef∨v=x)):=by
     cases hd:o.dst with
     | none =>
      rw [hd] at hag
      refine ⟨.undef,fun t h=>(by cases h),?_⟩
      rcases hag with h | ⟨v,h⟩
      ·exact .inl h
      ·exact .inr ⟨v,h,.inl rfl⟩
     | some t =>
      rw [hd] at hag
      dsimp only at hag
      cases hh:holdsV C s t p c with
      | none=>rw [hh] at hag;exact hag.elim
      | some x=>rw [hh] at hag;exact ⟨x,fun t' h=>by cases h;exact hh,hag⟩
    obtain ⟨x,hx,hcv⟩:=hag'
    cases c with
    | false =>
     simp only [Bool.false_eq_true,if_false]
     refine hK done suf s _ G _ w (M.caught (p:=p) (c:=false) (x:=x) ho hdone hX hr (jlb M.inv rfl hp hpc hfree) (jta _ _ _).1 hx (fun _ _ _ h=>h)) hrun hsuf (hst _)
    | true =>
     simp only [if_true]
     rcases hcv with hcv | ⟨v,hl,hxv⟩
     ·cases hcv
     ·refine .inl (jte hC (M.hereOf hp) (fun t _=>M.inv.slots t) ((lc p).trans hl) (fun val w' hext hval=>?_))
      have hval':VRel R G σ.h x val:=by
       rcases hxv with rfl | rfl
       ·trivial
       ·exact hval
      refine hK done suf s _ G _ w' (M.caught (p:=p) (c:=true) (x:=x) ho hdone hX hr (jlb (jtc M.inv hext) hval' hp hpc hfree) (jta _ _ _).1 hx (fun _ _ _ h=>h)) hrun hsuf (hst _)
  ·exact absurd (M.tx i h1) hX
  ·-- an alloc
   obtain ⟨o',d,b,x0,e1,e3,e4,e5,e6,x,e7,e8⟩:=M.al i h2 hX
   rw [ho] at e1
   cases e1
   have hw:Region.wanted o (yielded ops a.tmps)=true:=by simp [Region.wanted,e3]
   rw [hw]
   simp only [if_true]
   refine .inl ?_
   cases e5 with
   | al t zs e2 e5 =>
    obtain ⟨ti,z,h1,h2,h3,h4,h5,h6⟩:=jzb e5
    have hcl:=jue (R:=R) (G:=G) (h:=σ.h) (zs:=zs) (vs:=z.cells.toList) (by simpa using h4.symm) h6
    have hrn:(execOp a.eval o).run C.P w=.ok (.value (.pointer (some ⟨w.heap.size,0,none⟩))) (w.alloc (.cells z.cells t)):=by
     simp [execOp,e2,Instr.alloc,zeroValue,typeInfo,h1,h2,newVar,newRow]
    unfold Oper.wp
    rw [hrn]
    obtain ⟨i1,i2,i3⟩:=jmz (cur:=z.cells) (e:=t) M.inv e6 (jrd w _) (heap_alloc_new w _) (joa w _) (by rw [jsm,h4];exact Nat.le_refl _) (fun j y hj=>by obtain ⟨u,k1,k2,k3⟩:=hcl.2 j y hj;exact ⟨u,by simpa using k1,k2,k3⟩)
    have hval:VRel R (G.add (nm d 0) (w.heap.size,0) undef (·=w.heap.size)) σ.h x (.pointer (some ⟨w.heap.size,0,none⟩)):=by
     rcases e8 with rfl | rfl
     ·exact i2
     ·trivial
    refine hK done suf s _ _ _ _ (M.caught (p:=[]) (c:=true) (x:=x) ho hdone hX hr (jlb i1 hval (.inl ⟨rfl,rfl⟩) (fun _=>rfl) hfree) (jta _ _ _).1 (fun t' ht'=>by rw [e4] at ht';cases ht';exact e7) (fun d' cs hne h=>i3 _ _ (fun e=>hne d e4 (by have e':d' * 64+0=d * 64+0:=e;exact Nat.eq_of_mul_eq_mul_right (by decide:0 < 64) e')) h)) hrun hsuf (hst _)
   | bs t el zs e2 ht hz =>
    obtain ⟨hz1,hpos,hE⟩:=jxn hz
    obtain ⟨ti,z,h1,h2,h3,h4,h5,h6⟩:=jzb hz1
    obtain ⟨_,_,hu,_⟩:=jed ht
    have hrn:(execOp a.eval o).run C.P w=.ok (.value (.slice (some ⟨w.heap.size,0,none⟩) 0 0)) (w.alloc (.cells #[] el)):=by
     have key:(Instr.buildSlice t 0 #[]).run C.P w=.ok (.slice (some ⟨w.heap.size,0,none⟩) 0 0) (w.alloc (.cells #[] el)):=by
      simp [Instr.buildSlice,run_underlying hu,sizeOf,typeInfo,h1,h3,Instr.fill,newRow,Array.range_zero']
     simp only [execOp,e2]
     simp [key]
    unfold Oper.wp
    rw [hrn]
    obtain ⟨i1,i2,i3⟩:=joz (cur:=#[]) (e:=el) M.inv e6 (jrd w _) (heap_alloc_new w _) (joa w _) hE
    have hval:VRel R (G.add (nm d 0) (0,0) (.slice (some ⟨w.heap.size,0,none⟩) 0 0) (·=w.heap.size)) σ.h x (.slice (some ⟨w.heap.size,0,none⟩) 0 0):=by
     rcases e8 with rfl | rfl
     ·exact i2
     ·trivial
    refine hK done suf s _ _ _ _ (M.caught (p:=[]) (c:=true) (x:=x) ho hdone hX hr (jlb i1 hval (.inl ⟨rfl,rfl⟩) (fun _=>rfl) hfree) (jta _ _ _).1 (fun t' ht'=>by rw [e4] at ht';cases ht';exact e7) (fun d' cs hne h=>i3 _ _ (fun e=>hne d e4 (by have e':d' * 64+0=d * 64+0:=e;exact Nat.eq_of_mul_eq_mul_right (by decide:0 < 64) e')) h)) hrun hsuf (hst _)
 ·-- the next turn
  have hdone':anyD done i=false:=by simpa using hdone
  rcases hsuf with rfl | ⟨i0,js,r,rfl⟩
  ·have hc:=M.chk
   simp only [chkD,List.all_eq_true,List.mem_range] at hc
   exact absurd (hc i hi) hdone
  ·obtain ⟨o',Kc⟩:=jod M.chk
   by_cases e:i=i0
   ·subst e
    rw [Kc.ho] at ho
    cases ho
    obtain ⟨s1,hs1,hag,hnext⟩:=jwg hrun Kc.ho
    obtain ⟨p,c,hg,hs1⟩:=jzv hs1
    have hv:=M.vis_turn Kc hr
    obtain ⟨hp,hpc,hw⟩:=jdh M.inv (M.guard hv hg)
    rcases hs1 with ⟨rfl,hs1⟩ | ⟨hpn,hs1⟩
    ·have hc:=hpc rfl
     subst hc
     rw [hw]
     simp only [if_true]
     refine .inl ?_
     rcases hs1 with ⟨v,hl,rfl⟩ | ⟨hln,v,s2,hh,rfl⟩
     ·have lc:Den.light C σ [] o.op=Den.light C s [] o.op:=jye M.rel.h fun t ht q=>M.rel.gt (hv t (jya ht)) q
      refine jte hC (M.hereOf hp) (fun t _=>M.inv.slots t) (lc.trans hl) (fun val w' hext hval=>?_)
      have M1:=M.turn (v:=v) (s2:=s) (σ2:=σ) Kc hr (.refl M.rel.h) (.refl _ _ _) hag (jlb (jtc M.inv hext) (c:=true) hval hp hpc hfree) M.inv.m (jta _ _ _).1 (Fr.refl _ _)
      obtain ⟨done',suf',s',σ',M2,h1,h2⟩:=M1.advance hnext
      exact hK done' suf' s' σ' _ _ _ M2 h1 h2 (hst _)
     ·obtain ⟨σ2,k1,k2⟩:=jpl (st':=σ) M.rel.h (fun t ht=>M.rel.gt (hv t (jya ht)) []) hh
      refine jlc hC M.inv k1 _ _ (fun val w' G' j1 j2 j3=>?_)
      have hfree':∀t,o.dst=some t→lk σ2.l t=none∧t < a.tmps.size:=fun t ht=>by
       refine ⟨?_,(hfree t ht).2⟩
       have:=jad k1 t
       rw [(hfree t ht).1] at this
       cases he:lk σ2.l t with
       | none=>rfl
       | some q=>rw [he] at this;cases this
      have M1:=M.turn (v:=v) (s2:=s2) (σ2:=σ2) Kc hr k2 (by unfold jtg;rw [hg];dsimp only;rw [hln];exact jjk hh) hag (jlb j1 (c:=true) j2 (.inl ⟨rfl,rfl⟩) (fun _=>rfl) hfree') j1.m (jta _ _ _).1 j3
      obtain ⟨done',suf',s',σ',M2,h1,h2⟩:=M1.advance hnext
      exact hK done' suf' s' σ' _ _ _ M2 h1 h2 (hst _)
    ·rw [hw]
     rcases hs1 with ⟨rfl,rfl⟩ | ⟨rfl,hemp,v,s2,hh,rfl⟩
     ·simp only [Bool.false_eq_true,if_false]
      have M1:=M.turn (p:=p) (c:=false) (v:=.undef) (s2:=s) (σ2:=σ) Kc hr (.refl M.rel.h) (.refl _ _ _) hag (jlb M.inv rfl hp hpc hfree) M.inv.m (jta _ _ _).1 (Fr.refl _ _)
      obtain ⟨done',suf',s',σ',M2,h1,h2⟩:=M1.advance hnext
      exact hK done' suf' s' σ' _ _ _ M2 h1 h2 (hst _)
     ·simp only [if_true]
      refine .inl ?_
      have hA:∀t,Operand.tmp t∈o.op.operands.toList→Den.gt C (atP p σ) [] t=Den.gt C (atP p s) [] t:=fun t ht=>(M.rel.atP p).gt (hv t (jya ht)) []
      obtain ⟨σ2,k1,k2⟩:=jpl (st':=atP p σ) (show (atP p σ).h=(atP p s).h from M.rel.h) hA hh
      obtain ⟨ns,a1,a2,a3,a4,a5⟩:=k2
      have z1:zipL s.l s2.l=jpa ns s.l:=by rw [a2];exact zipL_kills p ns s.l
      have z2:zipL σ.l σ2.l=jpa ns σ.l:=by rw [a4];exact zipL_kills p ns σ.l
      obtain ⟨nf,f1,f2,f3,f4⟩:=jjk hh
      have f3':zipL s.l s2.l=jpa nf s.l:=by rw [f3];exact zipL_kills p nf s.l
      refine jlc hC (jip M.inv hp) k1 _ _ (fun val w' G' j1 j2 j3=>?_)
      have hi:Inv C R G' ⟨σ2.m,zipL σ.l σ2.l,σ2.h⟩ a w':=by rw [z2];exact unatK_inv M.inv j1 a4
      have hp':jtb (zipL σ.l σ2.l) p true:=by rw [z2];exact pathC_kills ns hp
      have hfree':∀t,o.dst=some t→lk (zipL σ.l σ2.l) t=none∧t < a.tmps.size:=fun t ht=>by
       refine ⟨?_,(hfree t ht).2⟩
       rw [z2];exact jci t ns _ (hfree t ht).1
      have M1:=M.turn (p:=p) (c:=true) (v:=v) (s2:=⟨s2.m,zipL s.l s2.l,s2.h⟩) (σ2:=⟨σ2.m,zipL σ.l σ2.l,σ2.h⟩) Kc hr ⟨ns,a1,z1,a3,z2,a5⟩ ⟨nf,fun n h=>by rw [hemp];exact f1 n h,f2,f3',fun n b hb hn hm=>f4 n b hb (fun h=>hn (by rw [hemp];exact h)) (fun h=>hm (by rw [hemp];exact h))⟩ hag (jlb hi j2 hp' hpc hfree') hi.m (jta _ _ _).1 j3
      obtain ⟨done',suf',s',σ',M2,h1,h2⟩:=M1.advance hnext
      exact hK done' suf' s' σ' _ _ _ M2 h1 h2 (hst _)
   ·have hb:=jdm Kc.next ((jja _ _ _ _ _).2 (.inl ⟨rfl,rfl⟩)) hi (by
     cases he:anyD ((i0,1) :: done) i with
     | false=>rfl
     | true =>
      rw [jda] at he
      rcases he with he | he
      ·exact absurd he.symm e
      ·exact absurd he hdone)
    have:=M.dx i0 (hr i0 hb)
    rw [Kc.new] at this;cases this
theorem Mid.fin (M:Mid C R ops ms n X done suf s σ G a w) (hsuf:suf=[]∨∃i js r,suf=(i,1,js) :: r) (hrun:runDraw C ops suf s=some st2) (hall:∀i,i < ops.size→X i):Inv C R G st2 a w∧st2.l=[]:=by
 have hs:suf=[]:=by
  rcases hsuf with h | ⟨i,js,r,rfl⟩
  ·exact h
  ·obtain ⟨o,K⟩:=jod M.chk
   have:=M.dx i (hall i (joc K.ho))
   rw [K.new] at this;cases this
 subst hs
 simp only [runDraw,Option.some.injEq] at hrun
 subst hrun
 have hnh:∀t,¬ Hid ops X done t:=fun t ⟨j,oj,_,h2,h3,_⟩=>h2 (hall j (joc h3))
 have H:=jgq M.inv (fun t ht=>(M.lx t ht).2)
 refine ⟨⟨H.W,?_,?_,fun t=>?_,fun t q c v h=>(by cases h),M.sm⟩,rfl⟩
 ·have:=H.B;rw [show ({ σ with l:=[] }:St).h=s.h from M.rel.h] at this;exact this
 ·have:=H.all;rw [show ({ σ with l:=[] }:St).h=s.h from M.rel.h] at this;exact this
 ·have hx:=H.slots t
  unfold jma at hx ⊢
  dsimp only [lk] at hx ⊢
  rw [M.rel.h,(M.rel.eq t (hnh t)).2] at hx
  exact hx
theorem jlq {p q:Nat→Bool} (h:∀i,q i=true→p i=true):∀{l:List Nat} {i:Nat},i∈l→p i=true→q i=false→l.countP q < l.countP p
 | [],i,hi,_,_=>by simp at hi
 | x :: l,i,hi,hp,hq=>by
  have le:l.countP q≤l.countP p:=List.countP_mono_left fun y _=>h y
  rcases List.mem_cons.1 hi with rfl | hi
  ·rw [List.countP_cons_of_pos (l:=l) hp,List.countP_cons_of_neg (by rw [hq];simp)];omega
  ·have:=jlq h hi hp hq
   by_cases hx:q x=true
   ·rw [List.countP_cons_of_pos hx,List.countP_cons_of_pos (h x hx)];omega
   ·rw [List.countP_cons_of_neg hx]
    have:=List.countP_le_length (p:=p) (l:=l)
    by_cases hpx:p x=true
    ·rw [List.countP_cons_of_pos hpx];omega
    ·rw [List.countP_cons_of_neg hpx];omega
theorem jpk {ops:Array Oper} {listed:Array Bool} {i:Nat}:i∈Region.ready .any ops listed↔i < ops.size∧listed.getD i true=false∧∃o,ops[i]? = some o∧∀e∈o.after.toList,Region.binds .any e=true→listed.getD e.on false=true:=by
 unfold Region.ready
 rw [List.mem_filter,List.mem_range]
 constructor
 ·rintro ⟨h1,h2⟩
  rw [Bool.and_eq_true,Bool.not_eq_true'] at h2
  refine ⟨h1,h2.1,ops[i],by simp [h1],fun e he hb=>?_⟩
  have h3:=h2.2
  simp only [h1,getElem?_pos,Option.map_some,Option.getD_some,Array.all_eq_true_iff_forall_mem] at h3
  have:=h3 e (by simpa using he)
  rw [hb] at this
  simpa using this
 ·rintro ⟨h1,h2,o,h3,h4⟩
  refine ⟨h1,?_⟩
  rw [Bool.and_eq_true,Bool.not_eq_true']
  refine ⟨h2,?_⟩
  rw [h3]
  simp only [Option.map_some,Option.getD_some,Array.all_eq_true_iff_forall_mem]
  intro e he
  cases hb:Region.binds .any e with
  | false=>rfl
  | true=>simpa using h4 e (by simpa using he) hb
def jzd (C:Ctx) (R:Rt) (n:Nat) (p:List Nat) (a0:Act) (st:St) (a:Act) (w:World):Prop:=∃G,Inv C R G st a w∧st.l=[]∧a.tmps.size=n∧jsa p a0 a
theorem jqy {Q:Exit→Act→World→Prop} (hC:CtxOk C) (hE:∀(i:Nat) o,ops[i]? = some o→∀e∈o.after.toList,Region.binds .any e=true→e.on < ops.size) {p0:List Nat} {a0:Act} (hlo:jub p0 ops.toList=true) (hQ:∀a' w',jzd C R n p0 a0 st2 a' w'→Q .normal a' w'):∀(fuel:Nat) (listed:Array Bool) (X:Nat→Prop) (done:List (Nat × Nat)) (suf:List (Nat × Nat × List Nat)) (s σ:St) (G:Gh) (a:Act) (w:World),listed.size=ops.size→(∀i,X i↔listed.getD i false=true)→(List.range ops.size).countP (fun i=>!listed.getD i false)≤fuel →
  Mid C R ops (jnb [] ops.toList) n X done suf s σ G a w→(suf=[]∨∃i js r,suf=(i,1,js) :: r)→runDraw C ops suf s=some st2→jsa p0 a0 a→wpAny C.P .any ops Q fuel listed a w:=by
 intro fuel
 induction fuel with
 | zero =>
  intro listed X done suf s σ G a w hsz hX hcnt M hsuf hrun hds
  have hall:∀i,i < ops.size→X i:=fun i hi=>by
   rw [hX]
   have h0:(List.range ops.size).countP (fun i=>!listed.getD i false)=0:=by omega
   rw [List.countP_eq_zero] at h0
   have:=h0 i (by simpa using hi)
   simpa using this
  obtain ⟨h1,h2⟩:=M.fin hsuf hrun hall
  refine ⟨?_,hQ a w ⟨G,h1,h2,M.sz,hds⟩⟩
  rw [List.eq_nil_iff_forall_not_mem]
  intro i hi
  obtain ⟨h3,h4,_⟩:=jpk.1 hi
  have:=(hX i).1 (hall i h3)
  simp [Array.getD_eq_getD_getElem?,hsz,h3] at h4 this
  rw [h4] at this;cases this
 | succ fuel ih =>
  intro listed X done suf s σ G a w hsz hX hcnt M hsuf hrun hds
  have hun:∀i,i < ops.size→(listed.getD i true=false↔¬ X i):=fun i hi=>by
   rw [hX]
   simp [Array.getD_eq_getD_getElem?,hsz,hi]
  refine ⟨fun hnil=>?_,fun i hi=>?_⟩
  ·-- nothing can be listed: all are
   have hall:∀i,i < ops.size→X i:=by
    have no:∀i,i < ops.size→¬ X i→(∀j,j < ops.size→bef (jnb [] ops.toList) i j=true→X j)→False:=fun i hi hx hb=>by
     obtain ⟨o,ho⟩:∃o,ops[i]? = some o:=⟨ops[i],by simp [hi]⟩
     have:i∈Region.ready .any ops listed:=jpk.2 ⟨hi,(hun i hi).2 hx,o,ho,fun e he hbind=>(hX _).1 (hb _ (hE i o ho e he hbind) (joy (ops:=ops.toList) (i:=i) (o:=o) (by simpa using ho) he hbind))⟩
     rw [hnil] at this
     simp at this
    have hdone:∀i,anyD done i=true→i < ops.size→X i:=fun i hi hlt=>Classical.byContradiction fun hx=>by
     obtain ⟨j,j1,j2,j3⟩:=M.wf.first (X:=fun j=>X j∨¬ j < ops.size) ⟨i,hi,fun h=>by rcases h with h | h;exact hx h;exact h hlt⟩
     refine no j (Classical.byContradiction fun h=>j2 (.inr h)) (fun h=>j2 (.inl h)) (fun k hk hb=>?_)
     rcases j3 k hk hb with h | h
     ·exact h
     ·exact absurd hk h
    intro i hi
    refine Classical.byContradiction fun hx=>?_
    have hn:¬ anyD done i=true:=fun h=>hx (hdone i h hi)
    rcases hsuf with rfl | ⟨i0,js,r,rfl⟩
    ·have hc:=M.chk
     simp only [chkD,List.all_eq_true,List.mem_range] at hc
     exact hn (hc i hi)
    ·obtain ⟨o,K⟩:=jod M.chk
     exact no i0 (joc K.ho) (M.notX K.new) (fun j hj hb=>hdone j (K.sub j hj hb) hj)
   obtain ⟨h1,h2⟩:=M.fin hsuf hrun hall
   exact hQ a w ⟨G,h1,h2,M.sz,hds⟩
  ·obtain ⟨h1,h2,o,h3,h4⟩:=jpk.1 hi
   have hx:=(hun i h1).1 h2
   refine M.step hlo hC hsuf hrun h1 hx (fun j hb=>?_) _ (fun done' suf' s' σ' G' a' w' M' hrun' hsuf' hd'=>?_)
   ·obtain ⟨e,he,hbind,hj⟩:=jqw (ops:=ops.toList) (by simpa using h3) hb
    have hon:=(hX _).2 (h4 e he hbind)
    rcases hj with rfl | hj
    ·exact hon
    ·exact M.cl _ _ hon hj
   ·refine ih _ _ done' suf' s' σ' G' a' w' (by simpa using hsz) (fun j=>?_) ?_ M' hsuf' hrun' (hds.trans hd')
    ·rw [hX]
     simp only [Array.getD_eq_getD_getElem?,Array.getElem?_setIfInBounds]
     by_cases e:i=j
     ·subst e;simp [hsz,h1]
     ·simp [e,Ne.symm e]
    ·have:=jlq (p:=fun i=>!listed.getD i false) (q:=fun j=>!(listed.setIfInBounds i true).getD j false) (fun j hj=>by
      simp only [Array.getD_eq_getD_getElem?,Array.getElem?_setIfInBounds] at hj ⊢
      by_cases e:i=j
      ·subst e;simp [hsz,h1] at hj
      ·simpa [e] using hj) (l:=List.range ops.size) (i:=i) (by simpa using h1) (by
       have:=hX i
       cases hg:listed.getD i false with
       | false=>rfl
       | true=>exact absurd (this.2 hg) hx) (by simp [Array.getD_eq_getD_getElem?,hsz,h1])
     omega
theorem jcw {Q:Exit→Act→World→Prop} {p0:List Nat} {a0:Act} {order:List (Nat × Nat × List Nat)} (hC:CtxOk C) (H:jzd C R n p0 a0 st a w) (hlo:jub p0 ops.toList=true) (hc:jfg n ops order=true) (hrun:runDraw C ops order st=some st2) (hQ:∀a' w',jzd C R n p0 a0 st2 a' w'→Q .normal a' w') :
  wpAny C.P .any ops Q ops.size (Array.replicate ops.size false) a w:=by
 obtain ⟨G,H,hl,hs,hd⟩:=H
 simp only [jfg,Bool.and_eq_true] at hc
 obtain ⟨⟨h1,h2⟩,h3⟩:=hc
 have nol:∀t,(lk st.l t).isSome=true→False:=fun t ht=>by rw [hl] at ht;simp [lk] at ht
 have noD:∀i,anyD [] i=true→False:=fun i h=>by simp [anyD] at h
 have noH:∀i k,hasD [] i k=true→False:=fun i k h=>by simp [hasD] at h
 have M:Mid C R ops (jnb [] ops.toList) n (fun _=>False) [] order st st G a w:={ dst:=h1,chk:=h3,wf:=trivial,dx:=fun i h=>h.elim,cl:=fun i j h=>h.elim,tx:=fun i h=>(noH i 1 h).elim,kk:=fun i h=>(noD i h).elim,rd:=fun i o t j oj h=>(noD i h).elim,rel:=⟨rfl,fun t _=>⟨rfl,rfl⟩,fun t ⟨i,o,h,_⟩=>(noD i h).elim⟩,ag:=fun i h=>(noH i 0 h).elim,al:=fun i h=>(noH i 2 h).elim,inv:=H,sm:=H.m,lx:=fun t h=>(nol t h).elim,ls:=fun t h=>(nol t h).elim,sz:=hs }
 obtain ⟨done',suf',s',σ',M',hrun',hsuf'⟩:=M.advance hrun
 refine jqy hC (fun i o ho=>jpj h2 i o (by simpa using ho)) hlo hQ _ _ (fun _=>False) done' suf' s' σ' G a w (by simp) (fun i=>?_) ?_ M' hsuf' hrun' hd
 ·simp only [Array.getD_eq_getD_getElem?,Array.getElem?_replicate,false_iff]
  split<;>simp
 ·have:=List.countP_le_length (p:=fun i=>!(Array.replicate ops.size false).getD i false) (l:=List.range ops.size)
  simpa using this
end Go.Den

/- Draw regions where a row is made beside a store: the row may come first. -/
namespace Go.Den
open Go
variable {P:Program} {ops:Array Oper} {o:Oper} {a:Act} {w w':World}

/-! what reads and writes single cells only -/
def Tame {α:Type}:Sem α→Prop
 | .pure _=>True
 | .halt _=>True
 | .load _ _ k=>∀v,Tame (k v)
 | .store _ _ _ k=>Tame k
 | .program k=>∀p,Tame (k p)
 | _=>False
def Reads {α:Type}:Sem α→Prop
 | .pure _=>True
 | .halt _=>True
 | .program k=>∀p,Reads (k p)
 | _=>False
def Once (n:Nat):Sem Value→Prop
 | .halt _=>True
 | .program k=>∀p,Once n (k p)
 | .new (.cells _ _ _) k=>∀r,k r=.pure (.slice (some ⟨r,0,none⟩) n n)
 | _=>False
theorem Tame.bind {α β:Type} {f:α→Sem β} (hf:∀x,Tame (f x)):∀(s:Sem α),Tame s→Tame (s.bind f)
 | .pure x,_=>hf x
 | .halt _,_=>trivial
 | .load _ _ k,h=>fun v=>Tame.bind hf (k v) (h v)
 | .store _ _ _ k,h=>Tame.bind hf k h
 | .program k,h=>fun p=>Tame.bind hf (k p) (h p)
 | .new ..,h | .shape ..,h | .freeze ..,h | .frozen ..,h | .getObj ..,h | .setObj ..,h | .choose ..,h | .sys ..,h | .mark ..,h=>h.elim
theorem Reads.tame {α:Type}:∀(s:Sem α),Reads s→Tame s
 | .pure _,_=>trivial
 | .halt _,_=>trivial
 | .program k,h=>fun p=>Reads.tame (k p) (h p)
 | .load ..,h | .store ..,h | .new ..,h | .shape ..,h | .freeze ..,h | .frozen ..,h | .getObj ..,h | .setObj ..,h | .choose ..,h | .sys ..,h | .mark ..,h=>h.elim
theorem Once.bind {α:Type} {n:Nat} {f:α→Sem Value} (hf:∀x,Once n (f x)):∀(s:Sem α),Reads s→Once n (s.bind f)
 | .pure x,_=>hf x
 | .halt _,_=>trivial
 | .program k,h=>fun p=>Once.bind hf (k p) (h p)
 | .load ..,h | .store ..,h | .new ..,h | .shape ..,h | .freeze ..,h | .frozen ..,h | .getObj ..,h | .setObj ..,h | .choose ..,h | .sys ..,h | .mark ..,h=>h.elim
theorem reads_underlying (t:TypeId):Reads (underlying t):=fun p=>by
 show Reads (match p.underlying t with | some d=>pure d | none=>stuck "no such type")
 cases p.underlying t<;>trivial
theorem reads_info (t:TypeId):Reads (typeInfo t):=fun p=>by
 show Reads (match p.info? t with | some i=>pure i | none=>stuck "no such type")
 cases p.info? t<;>trivial
theorem Reads.bind {α β:Type} {f:α→Sem β} (hf:∀x,Reads (f x)):∀(s:Sem α),Reads s→Reads (s.bind f)
 | .pure x,_=>hf x
 | .halt _,_=>trivial
 | .program k,h=>fun p=>Reads.bind hf (k p) (h p)
 | .load ..,h | .store ..,h | .new ..,h | .shape ..,h | .freeze ..,h | .frozen ..,h | .getObj ..,h | .setObj ..,h | .choose ..,h | .sys ..,h | .mark ..,h=>h.elim
theorem reads_size (t:TypeId):Reads (sizeOf t):=Reads.bind (f:=fun (i:TypeInfo)=>Sem.pure i.size) (fun _=>trivial) _ (reads_info t)
theorem reads_zero (t:TypeId):Reads (zeroValue t):=Reads.bind (fun i=>by
 cases i.zero<;>trivial) _ (reads_info t)
theorem reads_agg (t:TypeId):Reads (isAgg t):=Reads.bind (fun d=>by
 cases d<;>trivial) _ (reads_underlying t)
theorem tame_cells (a:Addr):∀(n i:Nat) (acc:Array Value),Tame (loadCellsFrom a i n acc)
 | 0,_,_=>trivial
 | n+1,i,acc=>fun v=>tame_cells a n (i+1) (acc.push v)
theorem tame_puts (a:Addr):∀(vs:List Value) (i:Nat),Tame (storeCells a vs i)
 | [],_=>trivial
 | _ :: r,i=>tame_puts a r (i+1)
theorem tame_load (t:TypeId) (x:Value):Tame (Instr.loadAt t x):=by
 unfold Instr.loadAt
 refine Tame.bind (fun ad=>?_) _ (by unfold Instr.sureAddr;split<;>trivial)
 refine Tame.bind (fun b=>?_) _ (Reads.tame _ (reads_agg t))
 cases b
 ·exact fun _=>trivial
 ·exact Tame.bind (fun n=>Tame.bind (f:=fun (c:Array Value)=>Sem.pure (Value.agg c)) (fun _=>trivial) _ (tame_cells ad n 0 #[])) _ (Reads.tame _ (reads_size t))
theorem tame_store (t:TypeId) (x v:Value):Tame (Instr.storeAt t x v):=by
 unfold Instr.storeAt
 refine Tame.bind (fun ad=>?_) _ (by unfold Instr.sureAddr;split<;>trivial)
 refine Tame.bind (fun n=>?_) _ (Reads.tame _ (reads_size t))
 split
 ·exact Tame.bind (fun _=>tame_puts ad _ 0) _ trivial
 ·exact tame_puts ad _ 0
theorem once_row (t:TypeId) (n:Nat) (ps:Array (Nat × Value)):Once n (Instr.buildSlice t n ps):=by
 unfold Instr.buildSlice
 refine Once.bind (fun d=>?_) _ (reads_underlying t)
 cases d<;>try exact trivial
 rename_i el
 refine Once.bind (fun sz=>?_) _ (reads_size el)
 by_cases h1:n * sz > 2 ^ 24
 ·simp only [h1,if_true]
  exact trivial
 ·simp only [h1,if_false]
  by_cases h2:n * sz=0
  ·simp only [h2,if_true]
   refine Once.bind (fun z=>?_) _ (show Reads (Sem.pure (#[]:Array Value)) from trivial)
   split
   ·exact fun r=>rfl
   ·trivial
  ·simp only [h2,if_false]
   refine Once.bind (fun z=>?_) _ (reads_zero el)
   refine Once.bind (fun z=>?_) _ (show Reads (Sem.pure z.cells) from trivial)
   split
   ·exact fun r=>rfl
   ·trivial
theorem get_alloc {n:Nat} {b:Obj} (o:Obj) (h:w.heap[n]? = some b):(w.alloc o).heap[n]? = some b:=by
 have hn:n < w.heap.size:=by
  rw [Array.getElem?_eq_some_iff] at h;exact h.1
 show (w.heap.push o)[n]? = some b
 rw [Array.getElem?_push]
 rw [if_neg (by omega)]
 exact h
theorem cell_alloc {x:Addr} {v:Value} (o:Obj) (h:w.cell? x=some v):(w.alloc o).cell? x=some v∧∃c e f,w.heap[x.block]? = some (.cells c e f):=by
 unfold World.cell? at h ⊢
 cases hb:w.heap[x.block]? with
 | none=>rw [hb] at h;cases h
 | some b =>
  rw [hb] at h
  rw [get_alloc o hb]
  cases b with
  | cells c e f=>exact ⟨h,c,e,f,rfl⟩
  | _=>cases h
theorem seen_alloc {at_:Addr} {u:TypeId} {k:Addr} {b:Bool} (o:Obj) {r} (h:w.seen P at_ u k b=.ok r):(w.alloc o).seen P at_ u k b=.ok r:=by
 unfold World.seen at h ⊢
 cases hb:w.heap[at_.block]? with
 | none =>
  exfalso
  simp only [hb] at h
  revert h
  simp only [bind,Except.bind,throw,throwThe,MonadExceptOf.throw]
  (repeat' split)<;>simp
 | some c =>
  rw [hb] at h
  rw [get_alloc o hb]
  exact h
theorem far_load {x:Addr} {b:Bool} {r:Value × List Addr} (o:Obj) (h:w.farLoad P x b=.ok r) (hc:w.cell? x=none):(w.alloc o).farLoad P x b=.ok r∧(w.alloc o).cell? x=none:=by
 unfold World.farLoad at h ⊢
 cases hb:w.heap[x.block]? with
 | none=>rw [hb] at h;cases h
 | some blk =>
  rw [hb] at h
  rw [get_alloc o hb]
  cases blk with
  | view a u =>
   simp only at h ⊢
   cases hv:w.viewLoad P a u x b with
   | error e=>rw [hv] at h;cases h
   | ok q =>
    rw [hv] at h
    refine ⟨?_,by unfold World.cell?;rw [get_alloc o hb]⟩
    have hs:(w.alloc o).viewLoad P a u x b=.ok q:=by
     unfold World.viewLoad at hv ⊢
     cases hq:w.seen P a u x b with
     | error e=>rw [hq] at hv;cases hv
     | ok z=>rw [hq] at hv;rw [seen_alloc o hq];exact hv
    rw [hs];exact h
  | _=>cases h
theorem set_alloc (o:Obj) {x:Addr} (v:Value) (h:x.block < w.heap.size):(w.alloc o).setCell x v=(w.setCell x v).alloc o∧(w.setCell x v).heap.size=w.heap.size:=by
 unfold World.setCell World.alloc
 refine ⟨?_,by simp⟩
 congr 1
 apply Array.ext_getElem?
 intro i
 simp only [Array.getElem?_modify,Array.getElem?_push,Array.size_modify]
 by_cases e:x.block=i
 ·subst e
  simp only [if_true,show ¬ x.block=w.heap.size by omega,if_false]
 ·simp only [e,if_false]
theorem far_store {x:Addr} {v:Value} {b:Bool} {r:World × List Addr} (o:Obj) (h:w.farStore P x v b=.ok r) (hc:w.cell? x=none):(w.alloc o).farStore P x v b=.ok (r.1.alloc o,r.2)∧(w.alloc o).cell? x=none∧r.1.heap.size=w.heap.size:=by
 unfold World.farStore at h ⊢
 cases hb:w.heap[x.block]? with
 | none=>rw [hb] at h;cases h
 | some blk =>
  rw [hb] at h
  rw [get_alloc o hb]
  cases blk with
  | view a u =>
   simp only at h ⊢
   cases hv:w.viewStore P a u x v b with
   | error e=>rw [hv] at h;cases h
   | ok q =>
    rw [hv] at h
    cases h
    have hs:(w.alloc o).viewStore P a u x v b=.ok (r.1.alloc o,r.2)∧r.1.heap.size=w.heap.size:=by
     unfold World.viewStore at hv ⊢
     cases ht:tight P P.depth u with
     | false=>rw [ht] at hv;cases hv
     | true =>
     cases hq:w.seen P a u x b with
     | error e=>rw [ht,hq] at hv;cases hv
     | ok z =>
      obtain ⟨c,e,fz,first,like,cells⟩:=z
      rw [ht,hq] at hv
      rw [seen_alloc o hq]
      have hlt:a.block < w.heap.size:=by
       cases hg:w.heap[a.block]? with
       | some g=>rw [Array.getElem?_eq_some_iff] at hg;exact hg.1
       | none =>
        unfold World.seen at hq
        exfalso
        simp only [hg] at hq
        revert hq
        simp only [bind,Except.bind,throw,throwThe,MonadExceptOf.throw]
        (repeat' split)<;>simp
      cases hby:v.bytes? with
      | none=>rw [hby] at hv;cases hv
      | some bytes =>
       rw [hby] at hv
       simp only [bind,Except.bind,Bool.not_true,Bool.false_eq_true,if_false,pure,Except.pure] at hv ⊢
       split at hv
       ·cases hv
       ·rename_i hne
        rw [if_neg hne]
        split at hv
        ·cases hv
        ·rename_i c' hf
         cases hv
         simp only
         refine ⟨?_,by simp⟩
         congr 2
         show ({ w with heap:=(w.heap.push o).setIfInBounds a.block (.cells c' e fz) }:World)={ w with heap:=(w.heap.setIfInBounds a.block (.cells c' e fz)).push o }
         congr 1
         apply Array.ext_getElem?
         intro i
         simp only [Array.getElem?_setIfInBounds,Array.getElem?_push,Array.size_push,Array.size_setIfInBounds]
         by_cases e1:a.block=i
         ·subst e1
          simp only [if_true,show ¬ a.block=w.heap.size by omega,if_false,hlt,show a.block < w.heap.size+1 by omega]
         ·simp only [e1,if_false]
    refine ⟨by rw [hs.1],by unfold World.cell?;rw [get_alloc o hb],hs.2⟩
  | _=>cases h
theorem tame_ext {α:Type} (o:Obj):∀(s:Sem α) (w w':World) (x:α),Tame s→s.run P w=.ok x w'→s.run P (w.alloc o)=.ok x (w'.alloc o)∧w'.heap.size=w.heap.size
 | .pure y,w,w',x,_,h=>by
  simp only [Sem.run,Result.ok.injEq] at h
  obtain ⟨rfl,rfl⟩:=h
  exact ⟨rfl,rfl⟩
 | .halt _,w,w',x,_,h=>by simp [Sem.run] at h
 | .program k,w,w',x,ht,h=>tame_ext o (k P) w w' x (ht P) h
 | .load m ad k,w,w',x,ht,h=>by
  simp only [Sem.run] at h ⊢
  cases hc:w.cell? ad with
  | some v =>
   rw [hc] at h
   rw [(cell_alloc o hc).1]
   exact tame_ext o (k v) w w' x (ht v) h
  | none =>
   rw [hc] at h
   simp only at h
   cases hf:w.farLoad P ad (m==.atomic) with
   | error e=>rw [hf] at h;cases h
   | ok r =>
    rw [hf] at h
    obtain ⟨h1,h2⟩:=far_load o hf hc
    rw [h2,h1]
    exact tame_ext o (k r.1) w w' x (ht r.1) h
 | .store m ad v k,w,w',x,ht,h=>by
  have key:∀(hv:∀cs,v≠.agg cs) (hv2:∀cs,v≠.tuple cs),(Sem.store m ad v k).run P (w.alloc o)=.ok x (w'.alloc o)∧w'.heap.size=w.heap.size:=fun hv hv2=>by
   have e:∀w:World,(Sem.store m ad v k).run P w=(match w.cell? ad with
     | some _=>if w.frozen? ad then .halt (.unsupported (.unsafePointer "a write to bytes that a string shares")) w else k.run P (w.setCell ad v)
     | none=>match w.farStore P ad v (m==.atomic) with
      | .ok (w,_)=>k.run P w
      | .error h=>.halt h w):=fun w=>by
    cases v with
    | agg cs=>exact absurd rfl (hv cs)
    | tuple cs=>exact absurd rfl (hv2 cs)
    | _=>rfl
   rw [e] at h ⊢
   cases hc:w.cell? ad with
   | some y =>
    rw [hc] at h
    obtain ⟨h1,c,el,f,hb⟩:=cell_alloc o hc
    rw [h1]
    simp only at h ⊢
    have hfr:(w.alloc o).frozen? ad=w.frozen? ad:=by
     unfold World.frozen?
     rw [get_alloc o hb,hb]
    rw [hfr]
    cases hz:w.frozen? ad with
    | true=>rw [hz] at h;simp at h
    | false =>
     rw [hz] at h
     simp only [Bool.false_eq_true,if_false] at h ⊢
     have hlt:ad.block < w.heap.size:=by
      rw [Array.getElem?_eq_some_iff] at hb;exact hb.1
     obtain ⟨s1,s2⟩:=set_alloc o v hlt
     rw [s1]
     obtain ⟨r1,r2⟩:=tame_ext o k (w.setCell ad v) w' x ht h
     exact ⟨r1,r2.trans s2⟩
   | none =>
    rw [hc] at h
    simp only at h
    cases hf:w.farStore P ad v (m==.atomic) with
    | error e=>rw [hf] at h;cases h
    | ok r =>
     rw [hf] at h
     obtain ⟨h1,h2,h3⟩:=far_store o hf hc
     rw [h2,h1]
     obtain ⟨r1,r2⟩:=tame_ext o k r.1 w' x ht h
     exact ⟨r1,r2.trans h3⟩
  by_cases hv:∃cs,v=.agg cs
  ·obtain ⟨cs,rfl⟩:=hv;simp [Sem.run] at h
  ·by_cases hv2:∃cs,v=.tuple cs
   ·obtain ⟨cs,rfl⟩:=hv2;simp [Sem.run] at h
   ·exact key (fun cs e=>hv ⟨cs,e⟩) (fun cs e=>hv2 ⟨cs,e⟩)
 | .new ..,_,_,_,ht,_ | .shape ..,_,_,_,ht,_ | .freeze ..,_,_,_,ht,_ | .frozen ..,_,_,_,ht,_ | .getObj ..,_,_,_,ht,_ | .setObj ..,_,_,_,ht,_ | .choose ..,_,_,_,ht,_ | .sys ..,_,_,_,ht,_ | .mark ..,_,_,_,ht,_=>ht.elim
theorem once_run {n:Nat}:∀(s:Sem Value) (w w':World) (v:Value),Once n s→s.run P w=.ok v w'→∃A el f,∀w2:World,s.run P w2=.ok (.slice (some ⟨w2.heap.size,0,none⟩) n n) (w2.alloc (.cells A el f))
 | .halt _,w,w',v,_,h=>by simp [Sem.run] at h
 | .program k,w,w',v,ho,h=>once_run (k P) w w' v (ho P) h
 | .new (.cells A el f) k,w,w',v,ho,h=>⟨A,el,f,fun w2=>by
   show (k w2.heap.size).run P _=_
   rw [ho w2.heap.size];rfl⟩
 | .new (.view ..) _,_,_,_,ho,_ | .new (.pending ..) _,_,_,_,ho,_=>ho.elim
 | .pure ..,_,_,_,ho,_ | .load ..,_,_,_,ho,_ | .store ..,_,_,_,ho,_ | .shape ..,_,_,_,ho,_ | .freeze ..,_,_,_,ho,_ | .frozen ..,_,_,_,ho,_ | .getObj ..,_,_,_,ho,_ | .setObj ..,_,_,_,ho,_ | .choose ..,_,_,_,ho,_ | .sys ..,_,_,_,ho,_ | .mark ..,_,_,_,ho,_=>ho.elim

/-! the region with one more edge: the row's maker waits for the store -/
def addE (ops:Array Oper) (i j:Nat):Array Oper:=ops.modify i fun o=>{ o with after:=o.after.push ⟨j,.data⟩ }
theorem addE_ne {i j k:Nat} (h:k≠i):(addE ops i j)[k]? = ops[k]?:=by
 unfold addE
 rw [Array.getElem?_modify,if_neg (Ne.symm h)]
theorem addE_eq {i j:Nat} (h:ops[i]? = some o):(addE ops i j)[i]? = some { o with after:=o.after.push ⟨j,.data⟩ }:=by
 unfold addE
 rw [Array.getElem?_modify,if_pos rfl,h];rfl
theorem addE_size {i j:Nat}:(addE ops i j).size=ops.size:=by unfold addE;simp
def hasE (o:Oper) (j:Nat):Bool:=o.after.toList.any fun e=>Region.binds .any e&&e.on==j
def notTm (d:Nat) (x:Operand):Bool:=match x with | .tmp t=>t != d | _=>true
def isTame:Op→Bool | .load _ _=>true | .store _ _ _=>true | _=>false
def tameO (d:Nat) (ps:List Operand) (o:Oper):Bool :=
 o.guard.isNone&&isTame o.op&&o.op.operands.toList.all (notTm d)&&(match o.dst with | some t=>t != d&&ps.all (notTm t) | none=>true)
def lateK (ms:List Nat) (i j d:Nat) (ps:List Operand) (k:Nat) (o:Oper):Bool :=
 o.after.toList.all (fun e=>!Region.binds .any e||decide (e.on < k))&&(!hasE o i||hasE o j)&&(k==i||hasE o j||bef ms i k||tameO d ps o)
def lateAll (ms:List Nat) (i j d:Nat) (ps:List Operand):Nat→List Oper→Bool
 | _,[]=>true
 | k,o :: os=>lateK ms i j d ps k o&&lateAll ms i j d ps (k+1) os
def rowPs:Op→Option (List Operand) | .buildSlice _ _ parts=>some (parts.toList.map (·.2)) | _=>none
def lateOk (ops:Array Oper) (i j:Nat):Bool:=match ops[i]? with
 | some oi=>(match rowPs oi.op with
  | some ps=>oi.guard.isNone&&decide (i≠j)&&(match oi.dst with
   | some d=>(match ops[j]? with | some oj=>tameO d ps oj | none=>false)&&lateAll (jnb [] ops.toList) i j d ps 0 ops.toList
   | none=>false)
  | none=>false)
 | none=>false
theorem lateAll_get {ms:List Nat} {i j d:Nat} {ps:List Operand} (os:List Oper):∀(k0:Nat),lateAll ms i j d ps k0 os=true→∀(k:Nat) o,os[k]? = some o→lateK ms i j d ps (k0+k) o=true:=by
 induction os with
 | nil=>intro k0 _ k o e;simp at e
 | cons o1 os ih =>
  intro k0 h k o e
  simp only [lateAll,Bool.and_eq_true] at h
  cases k with
  | zero=>simp at e;subst e;exact h.1
  | succ k =>
   have:=ih (k0+1) h.2 k o (by simpa using e)
   rw [show k0+(k+1)=k0+1+k by omega];exact this
theorem hasE_iff {j:Nat}:hasE o j=true↔∃e∈o.after.toList,Region.binds .any e=true∧e.on=j:=by
 unfold hasE
 simp only [List.any_eq_true,Bool.and_eq_true,beq_iff_eq]
structure Late (ops:Array Oper) (i j d n:Nat) (t:TypeId) (parts:Array (Nat × Operand)) (oi oj:Oper):Prop where
 hi:ops[i]? = some oi
 hj:ops[j]? = some oj
 op:oi.op=.buildSlice t n parts
 gd:oi.guard=none
 ds:oi.dst=some d
 ne:i≠j
 tj:tameO d (parts.toList.map (·.2)) oj=true
 dn:∀(k:Nat) o,ops[k]? = some o→∀e∈o.after.toList,Region.binds .any e=true→e.on < k
 hs:∀(k:Nat) o,ops[k]? = some o→hasE o i=true→hasE o j=true
 cl:∀(k:Nat) o,ops[k]? = some o→k≠i→hasE o j=true∨bef (jnb [] ops.toList) i k=true∨tameO d (parts.toList.map (·.2)) o=true
theorem rowPs_spec {x:Op} {ps:List Operand} (h:rowPs x=some ps):∃t n parts,x=.buildSlice t n parts∧ps=parts.toList.map (·.2):=by
 cases x with
 | buildSlice t n parts=>simp only [rowPs,Option.some.injEq] at h;exact ⟨t,n,parts,rfl,h.symm⟩
 | _=>cases h
theorem late_spec {i j:Nat} (h:lateOk ops i j=true):∃d n t parts oi oj,Late ops i j d n t parts oi oj:=by
 unfold lateOk at h
 cases hi:ops[i]? with
 | none=>rw [hi] at h;cases h
 | some oi =>
  rw [hi] at h
  simp only at h
  cases hp:rowPs oi.op with
  | none=>rw [hp] at h;cases h
  | some ps =>
  rw [hp] at h
  obtain ⟨t,n,parts,ho,rfl⟩:=rowPs_spec hp
  simp only [Bool.and_eq_true,decide_eq_true_eq] at h
  obtain ⟨⟨hg,hne⟩,h⟩:=h
  cases hd:oi.dst with
  | none=>rw [hd] at h;cases h
  | some d =>
   rw [hd] at h
   simp only [Bool.and_eq_true] at h
   obtain ⟨h2,h3⟩:=h
   cases hj:ops[j]? with
   | none=>rw [hj] at h2;cases h2
   | some oj =>
    rw [hj] at h2
    have hk:∀(k:Nat) o,ops[k]? = some o→lateK (jnb [] ops.toList) i j d (parts.toList.map (·.2)) k o=true:=fun k o e=>by
     have:=lateAll_get _ _ h3 k o (by simpa using e)
     rwa [Nat.zero_add] at this
    refine ⟨d,n,t,parts,oi,oj,hi,hj,ho,by simpa using hg,hd,hne,h2,fun k o e=>?_,fun k o e=>?_,fun k o e hne=>?_⟩
    ·have:=hk k o e
     unfold lateK at this
     simp only [Bool.and_eq_true,List.all_eq_true,Bool.or_eq_true,Bool.not_eq_true',decide_eq_true_eq] at this
     intro e1 he hb
     rcases this.1.1 e1 he with h | h
     ·rw [hb] at h;cases h
     ·exact h
    ·have:=hk k o e
     unfold lateK at this
     simp only [Bool.and_eq_true,Bool.or_eq_true,Bool.not_eq_true'] at this
     intro hh
     rcases this.1.2 with h | h
     ·rw [hh] at h;cases h
     ·exact h
    ·have:=hk k o e
     unfold lateK at this
     simp only [Bool.and_eq_true,Bool.or_eq_true,beq_iff_eq] at this
     rcases this.2 with ((h | h) | h) | h
     ·exact absurd h hne
     ·exact .inl h
     ·exact .inr (.inl h)
     ·exact .inr (.inr h)
theorem eval_putN {d:Nat} {v:Value} {x:Operand} (h:notTm d x=true):(a.put (some d) v).eval x=a.eval x:=by
 cases x with
 | tmp t =>
  simp only [notTm,bne_iff_ne] at h
  simp only [Act.put,Act.eval,Array.getD_eq_getD_getElem?,Array.getElem?_setIfInBounds,if_neg (Ne.symm h)]
 | _=>rfl
theorem exec_put {d:Nat} {v:Value} (hk:isTame o.op=true) (h:o.op.operands.toList.all (notTm d)=true):execOp (a.put (some d) v).eval o=execOp a.eval o:=by
 unfold execOp
 cases ho:o.op with
 | load t x =>
  rw [ho] at h
  simp only [Op.operands,List.all_cons,List.all_nil,Bool.and_true] at h
  simp only [eval_putN h]
 | store t x y =>
  rw [ho] at h
  simp only [Op.operands,List.all_cons,List.all_nil,Bool.and_true,Bool.and_eq_true] at h
  simp only [eval_putN h.1,eval_putN h.2]
 | _=>simp [ho,isTame] at hk
theorem exec_row {n:Nat} {t:TypeId} {parts:Array (Nat × Operand)} {v:Value} {dst:Option Nat} (ho:o.op=.buildSlice t n parts) (h:∀d,dst=some d→(parts.toList.map (·.2)).all (notTm d)=true):execOp (a.put dst v).eval o=execOp a.eval o:=by
 cases dst with
 | none=>rfl
 | some d =>
  have h:=h d rfl
  unfold execOp
  rw [ho]
  have:(parts.map fun (i,x)=>(i,(a.put (some d) v).eval x))=parts.map fun (i,x)=>(i,a.eval x):=by
   apply Array.map_congr_left
   intro q hq
   have:=List.all_eq_true.1 h q.2 (List.mem_map.2 ⟨q,by simpa using hq,rfl⟩)
   simp only [eval_putN this]
  simp only [this]
theorem tame_step {K:Act→World→Prop} {Q0:Exit→Act→World→Prop} (hk:isTame o.op=true) (hP:∀c a w,¬ Q0 (.panic c) a w) (hL:¬ LetsOut Q0) (h:o.wp P a w K Q0∨(o.asks P a w∧LetsOut Q0)) :
  ∃y w',K (a.put o.dst y) w'∧w'.heap.size=w.heap.size∧∀ob a2 K2 Q,execOp a2.eval o=execOp a.eval o→K2 (a2.put o.dst y) (w'.alloc ob)→o.wp P a2 (w.alloc ob) K2 Q:=by
 have h:o.wp P a w K Q0:=h.resolve_right fun h=>hL h.2
 unfold Oper.wp at h
 have tm:Tame (execOp a.eval o):=by
  unfold execOp
  cases ho:o.op with
  | load t x=>exact Tame.bind (f:=fun v=>Sem.pure (Next.value v)) (fun _=>trivial) _ (tame_load t _)
  | store t x y=>exact Tame.bind (f:=fun _=>Sem.pure Next.skip) (fun _=>trivial) _ (tame_store t _ _)
  | _=>simp [ho,isTame] at hk
 have sh:∀nx w',(execOp a.eval o).run P w=.ok nx w'→(∃v,nx=.value v)∨nx=.skip:=by
  unfold execOp
  cases ho:o.op with
  | load t x =>
   intro nx w' e
   simp only [Sem.run_bind] at e
   cases hr:(Instr.loadAt t (a.eval x)).run P w with
   | ok v w2=>rw [hr] at e;simp at e;exact .inl ⟨v,e.1.symm⟩
   | halt x w2=>rw [hr] at e;simp at e
  | store t x y =>
   intro nx w' e
   simp only [Sem.run_bind] at e
   cases hr:(Instr.storeAt t (a.eval x) (a.eval y)).run P w with
   | ok v w2=>rw [hr] at e;simp at e;exact .inr e.1.symm
   | halt x w2=>rw [hr] at e;simp at e
  | _=>simp [ho,isTame] at hk
 cases hr:(execOp a.eval o).run P w with
 | halt x w2 =>
  rw [hr] at h
  cases x with
  | panic v=>exact absurd h (hP _ _ _)
  | _=>exact h.elim
 | ok nx w' =>
  rw [hr] at h
  have ex:=fun ob=>tame_ext (P:=P) ob _ w w' nx tm hr
  rcases sh nx w' hr with ⟨v,rfl⟩ | rfl
  ·refine ⟨v,w',h,(ex default).2,fun ob a2 K2 Q he hK=>?_⟩
   unfold Oper.wp
   rw [he,(ex ob).1];exact hK
  ·refine ⟨undef,w',h,(ex default).2,fun ob a2 K2 Q he hK=>?_⟩
   unfold Oper.wp
   rw [he,(ex ob).1];exact hK
theorem row_step {n:Nat} {t:TypeId} {parts:Array (Nat × Operand)} {K:Act→World→Prop} {Q0:Exit→Act→World→Prop} (ho:o.op=.buildSlice t n parts) (hP:∀c a w,¬ Q0 (.panic c) a w) (hL:¬ LetsOut Q0) (h:o.wp P a w K Q0∨(o.asks P a w∧LetsOut Q0)) :
  ∃A el f,∀w2:World,(execOp a.eval o).run P w2=.ok (.value (.slice (some ⟨w2.heap.size,0,none⟩) n n)) (w2.alloc (.cells A el f)):=by
 have h:o.wp P a w K Q0:=h.resolve_right fun h=>hL h.2
 unfold Oper.wp at h
 have e:∀w2:World,(execOp a.eval o).run P w2=(match (Instr.buildSlice t n (parts.map fun (i,x)=>(i,a.eval x))).run P w2 with | .ok v w3=>.ok (.value v) w3 | .halt x w3=>.halt x w3):=fun w2=>by
  unfold execOp
  rw [ho]
  simp only [Sem.run_bind]
  cases (Instr.buildSlice t n (parts.map fun (i,x)=>(i,a.eval x))).run P w2<;>rfl
 rw [e] at h
 cases hr:(Instr.buildSlice t n (parts.map fun (i,x)=>(i,a.eval x))).run P w with
 | halt x w2 =>
  rw [hr] at h
  cases x with
  | panic v=>exact absurd h (hP _ _ _)
  | _=>exact h.elim
 | ok v w' =>
  obtain ⟨A,el,f,H⟩:=once_run (P:=P) _ w w' v (once_row t n _) hr
  exact ⟨A,el,f,fun w2=>by rw [e,H w2]⟩

theorem put_comm {a:Act} {d:Nat} {v y:Value} {dst:Option Nat} (h:dst≠some d):(a.put (some d) v).put dst y=(a.put dst y).put (some d) v:=by
 cases dst with
 | none=>rfl
 | some t =>
  have hne:d≠t:=fun e=>h (by rw [e])
  simp only [Act.put]
  congr 1
  apply Array.ext_getElem?
  intro i
  simp only [Array.getElem?_setIfInBounds,Array.size_setIfInBounds]
  by_cases e1:t=i
  ·subst e1;simp [hne]
  ·by_cases e2:d=i
   ·subst e2;simp [e1]
   ·simp [e1,e2]
theorem get_set {L:Array Bool} {i k:Nat} {b:Bool}:(L.setIfInBounds i true).getD k b=if k=i∧i < L.size then true else L.getD k b:=by
 simp only [Array.getD_eq_getD_getElem?,Array.getElem?_setIfInBounds]
 by_cases e:i=k
 ·subst e
  by_cases hl:i < L.size
  ·simp [hl]
  ·simp [hl]
 ·simp [e,Ne.symm e]
structure M2 (ops:Array Oper) (i j:Nat) (L:Array Bool):Prop where
 sz:L.size=ops.size
 hi:L.getD i true=false
 hj:L.getD j true=false
 pre:∀k,bef (jnb [] ops.toList) i k=true→L.getD k false=true
 cl:∀(k:Nat) o,L.getD k false=true→ops[k]? = some o→∀e∈o.after.toList,Region.binds .any e=true→L.getD e.on false=true
section
variable {i j d n:Nat} {t:TypeId} {parts:Array (Nat × Operand)} {oi oj:Oper} {L:Array Bool} {Q Q0:Exit→Act→World→Prop}
theorem un_false {L:Array Bool} {k:Nat} (hk:k < L.size) (h:L.getD k true=false):L.getD k false=false:=by
 simp only [Array.getD_eq_getD_getElem?,hk,getElem?_pos,Option.getD_some] at h ⊢;exact h
theorem un_true {L:Array Bool} {k:Nat} (hk:k < L.size) (h:¬ L.getD k false=true):L.getD k true=false:=by
 simp only [Array.getD_eq_getD_getElem?,hk,getElem?_pos,Option.getD_some] at h ⊢;simpa using h
theorem M2.next (M:M2 ops i j L) (H:Late ops i j d n t parts oi oj) {k:Nat} (hk:k∈Region.ready .any (addE ops i j) L) (hi:k≠i) (hj:k≠j):M2 ops i j (L.setIfInBounds k true):=by
 obtain ⟨h1,h2,o,h3,h4⟩:=jpk.1 hk
 rw [addE_ne hi] at h3
 refine ⟨by simpa using M.sz,?_,?_,fun m hm=>?_,fun m o' hm ho' e he hb=>?_⟩
 ·rw [get_set,if_neg (fun h=>hi h.1.symm)];exact M.hi
 ·rw [get_set,if_neg (fun h=>hj h.1.symm)];exact M.hj
 ·rw [get_set];split
  ·rfl
  ·exact M.pre m hm
 ·rw [get_set];split
  ·rfl
  ·rw [get_set] at hm
   split at hm
   ·rename_i hmk
    rw [hmk.1,h3] at ho'
    cases ho'
    exact h4 e he hb
   ·exact M.cl m o' hm ho' e he hb
theorem M2.ready (M:M2 ops i j L) (H:Late ops i j d n t parts oi oj):∃k,k∈Region.ready .any (addE ops i j) L∧k≠i:=by
 have hjs:j < ops.size:=joc H.hj
 have go:∀m,m≤j→m≠i→L.getD m true=false→∃k,k∈Region.ready .any (addE ops i j) L∧k≠i:=by
  intro m
  induction m using Nat.strongRecOn with
  | _ m ih =>
   intro hm hmi hu
   have hms:m < ops.size:=by omega
   have hom:ops[m]? = some ops[m]:=by simp [hms]
   by_cases hall:∀e∈ops[m].after.toList,Region.binds .any e=true→L.getD e.on false=true
   ·exact ⟨m,jpk.2 ⟨by rw [addE_size];exact hms,hu,ops[m],by rw [addE_ne hmi];exact hom,hall⟩,hmi⟩
   ·have:∃e,e∈ops[m].after.toList∧Region.binds .any e=true∧¬ L.getD e.on false=true:=Classical.byContradiction fun hno=>hall fun e he hb=>Classical.byContradiction fun hl=>hno ⟨e,he,hb,hl⟩
    obtain ⟨e,he,hb,hl⟩:=this
    have hlt:=H.dn m _ hom e he hb
    refine ih e.on hlt (by omega) (fun hei=>?_) (un_true (by rw [M.sz];omega) hl)
    have:=H.hs m _ hom (hasE_iff.2 ⟨e,he,hb,hei⟩)
    obtain ⟨e2,he2,hb2,h2⟩:=hasE_iff.1 this
    have:=H.dn m _ hom e2 he2 hb2
    omega
 exact go j (Nat.le_refl _) (Ne.symm H.ne) M.hj
theorem M2.tame (M:M2 ops i j L) (H:Late ops i j d n t parts oi oj) {k:Nat} (hk:k∈Region.ready .any (addE ops i j) L) (hi:k≠i):∃o,ops[k]? = some o∧tameO d (parts.toList.map (·.2)) o=true:=by
 obtain ⟨h1,h2,o,h3,h4⟩:=jpk.1 hk
 rw [addE_size] at h1
 rw [addE_ne hi] at h3
 refine ⟨o,h3,?_⟩
 rcases H.cl k o h3 hi with h | h | h
 ·obtain ⟨e,he,hb,rfl⟩:=hasE_iff.1 h
  have:=h4 e he hb
  rw [un_false (by rw [M.sz];exact joc H.hj) M.hj] at this
  cases this
 ·have:=M.pre k h
  rw [un_false (by rw [M.sz];exact h1) h2] at this
  cases this
 ·exact h
theorem tameO_spec {ps:List Operand} {o:Oper} (h:tameO d ps o=true):o.guard=none∧isTame o.op=true∧o.op.operands.toList.all (notTm d)=true∧o.dst≠some d∧∀t,o.dst=some t→ps.all (notTm t)=true:=by
 unfold tameO at h
 simp only [Bool.and_eq_true] at h
 obtain ⟨⟨⟨h1,h2⟩,h3⟩,h4⟩:=h
 refine ⟨by simpa using h1,h2,h3,fun e=>?_,fun t e=>?_⟩
 ·rw [e] at h4;simp at h4
 ·rw [e] at h4;simp only [Bool.and_eq_true] at h4;exact h4.2
theorem wp_of_op {K:Act→World→Prop} {k:Nat} (hk:ops[k]? = some o) (hg:o.guard=none):wpOp P ops Q k K a w=(o.wp P a w K Q∨(o.asks P a w∧LetsOut Q)):=by
 unfold wpOp
 rw [hk]
 simp only [Region.wanted,hg,if_true]
theorem M2.row (M:M2 ops i j L) (H:Late ops i j d n t parts oi oj):i∈Region.ready .any (addE ops i j) (L.setIfInBounds j true):=by
 refine jpk.2 ⟨by rw [addE_size];exact joc H.hi,by rw [get_set,if_neg (fun h=>H.ne h.1)];exact M.hi,_,addE_eq H.hi,fun e he hb=>?_⟩
 simp only [Array.toList_push,List.mem_append,List.mem_singleton] at he
 rw [get_set]
 split
 ·rfl
 ·rename_i hn
  rcases he with he | rfl
  ·exact M.pre _ (joy (by simpa using H.hi) he hb)
  ·exact absurd ⟨rfl,by rw [M.sz];exact joc H.hj⟩ hn
theorem row_exists (H:Late ops i j d n t parts oi oj) (hP:∀c a w,¬ Q0 (.panic c) a w) (hL:¬ LetsOut Q0):∀(fuel:Nat) (L:Array Bool) (a:Act) (w:World),M2 ops i j L→wpAny P .any (addE ops i j) Q0 fuel L a w →
  ∃A el f,∀w2:World,(execOp a.eval oi).run P w2=.ok (.value (.slice (some ⟨w2.heap.size,0,none⟩) n n)) (w2.alloc (.cells A el f)):=by
 intro fuel
 induction fuel with
 | zero =>
  intro L a w M h
  obtain ⟨k,hk,_⟩:=M.ready H
  rw [h.1] at hk;cases hk
 | succ fuel ih =>
  intro L a w M h
  obtain ⟨k,hk,hki⟩:=M.ready H
  obtain ⟨o,ho,ht⟩:=M.tame H hk hki
  obtain ⟨t1,t2,t3,t4,t5⟩:=tameO_spec ht
  have hs:=h.2 k hk
  rw [wp_of_op (by rw [addE_ne hki];exact ho) t1] at hs
  obtain ⟨y,w',hK,_,_⟩:=tame_step t2 hP hL hs
  have back:∀{A el f},(∀w2:World,(execOp (a.put o.dst y).eval oi).run P w2=.ok (.value (.slice (some ⟨w2.heap.size,0,none⟩) n n)) (w2.alloc (.cells A el f)))→∃A el f,∀w2:World,(execOp a.eval oi).run P w2=.ok (.value (.slice (some ⟨w2.heap.size,0,none⟩) n n)) (w2.alloc (.cells A el f)):=fun {A el f} hh=>⟨A,el,f,fun w2=>by rw [←hh w2,exec_row H.op t5]⟩
  by_cases hkj:k=j
  ·subst hkj
   have hr:=M.row H
   cases fuel with
   | zero=>rw [hK.1] at hr;cases hr
   | succ fuel =>
    have hq:=hK.2 i hr
    rw [wp_of_op (addE_eq H.hi) H.gd] at hq
    obtain ⟨A,el,f,hh⟩:=row_step (o:={ oi with after:=oi.after.push ⟨k,.data⟩ }) H.op hP hL hq
    exact back hh
  ·obtain ⟨A,el,f,hh⟩:=ih _ _ _ (M.next H hk hki hkj) hK
   exact back hh
theorem ready_other {k:Nat} (hi:k≠i):k∈Region.ready .any (addE ops i j) L↔k∈Region.ready .any ops L:=by
 rw [jpk,jpk,addE_size,addE_ne hi]
theorem M2.back (M:M2 ops i j L) (H:Late ops i j d n t parts oi oj) {k:Nat} (hk:k∈Region.ready .any ops (L.setIfInBounds i true)):k≠i∧k∈Region.ready .any (addE ops i j) L:=by
 obtain ⟨h1,h2,o,h3,h4⟩:=jpk.1 hk
 have his:i < L.size:=by rw [M.sz];exact joc H.hi
 have hki:k≠i:=fun e=>by
  rw [get_set,if_pos ⟨e,his⟩] at h2;cases h2
 refine ⟨hki,(ready_other hki).2 (jpk.2 ⟨h1,by rwa [get_set,if_neg (fun h=>hki h.1)] at h2,o,h3,fun e he hb=>?_⟩)⟩
 have:=h4 e he hb
 rw [get_set] at this
 split at this
 ·rename_i hn
  obtain ⟨e2,he2,hb2,h22⟩:=hasE_iff.1 (H.hs k o h3 (hasE_iff.2 ⟨e,he,hb,hn.1⟩))
  have:=h4 e2 he2 hb2
  rw [h22,get_set,if_neg (fun h=>H.ne h.1.symm),un_false (by rw [M.sz];exact joc H.hj) M.hj] at this
  cases this
 ·exact this
theorem cl_set (hc:∀(k:Nat) o,L.getD k false=true→ops[k]? = some o→∀e∈o.after.toList,Region.binds .any e=true→L.getD e.on false=true) {k:Nat} {o:Oper} (ho:ops[k]? = some o) (h4:∀e∈o.after.toList,Region.binds .any e=true→L.getD e.on false=true) :
  ∀(m:Nat) o',(L.setIfInBounds k true).getD m false=true→ops[m]? = some o'→∀e∈o'.after.toList,Region.binds .any e=true→(L.setIfInBounds k true).getD e.on false=true:=fun m o' hm ho' e he hb=>by
 rw [get_set];split
 ·rfl
 ·rw [get_set] at hm
  split at hm
  ·rename_i hmk
   rw [hmk.1,ho] at ho'
   cases ho'
   exact h4 e he hb
  ·exact hc m o' hm ho' e he hb
theorem set_comm (L:Array Bool) (i k:Nat):(L.setIfInBounds i true).setIfInBounds k true=(L.setIfInBounds k true).setIfInBounds i true:=by
 apply Array.ext_getElem?
 intro m
 simp only [Array.getElem?_setIfInBounds,Array.size_setIfInBounds]
 by_cases e1:k=m
 ·by_cases e2:i=m
  ·simp [e1,e2]
  ·simp [e1,e2]
 ·by_cases e2:i=m
  ·simp [e1,e2]
  ·simp [e1,e2]
theorem late_all (H:Late ops i j d n t parts oi oj) (hP:∀c a w,¬ Q0 (.panic c) a w) (hL:¬ LetsOut Q0) (hN:∀e a w,Q0 e a w→Q e a w):∀(fuel:Nat),
  (∀(L:Array Bool) (a:Act) (w:World),L.size=ops.size→(∀(k:Nat) o,L.getD k false=true→ops[k]? = some o→∀e∈o.after.toList,Region.binds .any e=true→L.getD e.on false=true)→wpAny P .any (addE ops i j) Q0 fuel L a w→wpAny P .any ops Q fuel L a w) ∧
  (∀(L:Array Bool) (a:Act) (w:World) (A:Array Value) (el:TypeId) (f:Nat × Nat),M2 ops i j L→(∀w2:World,(execOp a.eval oi).run P w2=.ok (.value (.slice (some ⟨w2.heap.size,0,none⟩) n n)) (w2.alloc (.cells A el f))) →
   wpAny P .any (addE ops i j) Q0 (fuel+1) L a w→wpAny P .any ops Q fuel (L.setIfInBounds i true) (a.put (some d) (.slice (some ⟨w.heap.size,0,none⟩) n n)) (w.alloc (.cells A el f))):=by
 have his:i < ops.size:=joc H.hi
 have hjs:j < ops.size:=joc H.hj
 -- where the maker may come and the store is not done
 have two:∀(L:Array Bool),L.size=ops.size→(∀(k:Nat) o,L.getD k false=true→ops[k]? = some o→∀e∈o.after.toList,Region.binds .any e=true→L.getD e.on false=true)→i∈Region.ready .any ops L→¬ i∈Region.ready .any (addE ops i j) L→M2 ops i j L:=fun L hsz hc h1 h2=>by
  obtain ⟨_,hu,o,ho,he⟩:=jpk.1 h1
  have hnj:¬ L.getD j false=true:=fun hj=>h2 (jpk.2 ⟨by rw [addE_size];exact his,hu,_,addE_eq ho,fun e hm hb=>by
   simp only [Array.toList_push,List.mem_append,List.mem_singleton] at hm
   rcases hm with hm | rfl
   ·exact he e hm hb
   ·exact hj⟩)
  refine ⟨hsz,hu,un_true (by omega) hnj,fun k hk=>?_,hc⟩
  obtain ⟨e,hm,hb,hk⟩:=jqw (by simpa using ho) hk
  rcases hk with rfl | hk
  ·exact he e hm hb
  ·exact bef_closed (X:=fun k=>L.getD k false=true) (fun k o hx ho=>hc k o hx (by simpa using ho)) _ _ (he e hm hb) hk
 -- one step of another one
 have step:∀{K K':Act→World→Prop} {k:Nat} {a:Act} {w:World},(∀a w,K a w→K' a w)→wpOp P (addE ops i j) Q0 k K a w→k < ops.size→wpOp P ops Q k K' a w:=fun {K K' k a w} hK h hks=>by
  have hy:yielded (addE ops i j) a.tmps=yielded ops a.tmps:=by
   funext m
   unfold yielded
   by_cases e:m=i
   ·subst e;rw [addE_eq H.hi,H.hi];rfl
   ·rw [addE_ne e]
  have fin:∀o:Oper,(if Region.wanted o (yielded ops a.tmps)=true then o.wp P a w K Q0∨(o.asks P a w∧LetsOut Q0) else K (a.put o.dst undef) w)→(if Region.wanted o (yielded ops a.tmps)=true then o.wp P a w K' Q∨(o.asks P a w∧LetsOut Q) else K' (a.put o.dst undef) w):=fun o h=>by
   split
   ·rename_i hw
    rw [if_pos hw] at h
    have h:=h.resolve_right fun h=>hL h.2
    refine .inl ?_
    unfold Oper.wp at h ⊢
    cases hr:(execOp a.eval o).run P w with
    | halt x w2 =>
     rw [hr] at h
     cases x with
     | panic v=>exact absurd h (hP _ _ _)
     | _=>exact h.elim
    | ok nx w' =>
     rw [hr] at h
     cases nx with
     | enter f args =>
      refine Calls.mono h fun e w'' he=>?_
      cases e with
      | returned v=>exact hK _ _ he
      | panicked c=>exact absurd he (hP _ _ _)
      | outgrown=>exact absurd he hL
     | row r args=>exact Rows.mono h fun _ _ he=>hK _ _ he
     | value v=>exact hK _ _ h
     | skip=>exact hK _ _ h
     | defer dd=>exact hK _ _ h
     | _=>exact h.elim
   ·rename_i hw
    rw [if_neg hw] at h
    exact hK _ _ h
  unfold wpOp at h ⊢
  rw [hy] at h
  by_cases e:k=i
  ·subst e
   rw [addE_eq H.hi] at h
   rw [H.hi]
   exact fin oi h
  ·rw [addE_ne e] at h
   cases ho:ops[k]? with
   | none=>rw [ho] at h;exact hK _ _ h
   | some o=>rw [ho] at h;exact fin o h
 intro fuel
 induction fuel with
 | zero =>
  refine ⟨fun L a w hsz hc h=>?_,fun L a w A el f M hr h=>?_⟩
  ·refine ⟨?_,hN _ _ _ h.2⟩
   rw [List.eq_nil_iff_forall_not_mem]
   intro k hk
   by_cases e:k=i
   ·subst e
    have hn:¬ k∈Region.ready .any (addE ops k j) L:=by rw [h.1];simp
    obtain ⟨m,hm,_⟩:=(two L hsz hc hk hn).ready H
    rw [h.1] at hm;cases hm
   ·have:=(ready_other (j:=j) e).2 hk
    rw [h.1] at this;cases this
  ·exfalso
   obtain ⟨k,hk,hki⟩:=M.ready H
   obtain ⟨o,ho,ht⟩:=M.tame H hk hki
   obtain ⟨t1,t2,t3,t4,t5⟩:=tameO_spec ht
   have hs:=h.2 k hk
   rw [wp_of_op (by rw [addE_ne hki];exact ho) t1] at hs
   obtain ⟨y,w',hK,_,_⟩:=tame_step t2 hP hL hs
   by_cases hkj:k=j
   ·subst hkj
    have hr:=M.row H
    rw [hK.1] at hr;cases hr
   ·obtain ⟨m,hm,_⟩:=(M.next H hk hki hkj).ready H
    rw [hK.1] at hm;cases hm
 | succ fuel ih =>
  obtain ⟨ih1,ih2⟩:=ih
  refine ⟨fun L a w hsz hc h=>⟨fun h0=>?_,fun k hk=>?_⟩,fun L a w A el f M hr h=>⟨fun h0=>?_,fun k hk=>?_⟩⟩
  ·refine hN _ _ _ (h.1 ?_)
   rw [List.eq_nil_iff_forall_not_mem]
   intro k hk
   by_cases e:k=i
   ·subst e
    obtain ⟨q1,q2,o,q3,q4⟩:=jpk.1 hk
    rw [addE_eq H.hi] at q3
    cases q3
    have:k∈Region.ready .any ops L:=jpk.2 ⟨his,q2,oi,H.hi,fun e he hb=>q4 e (by simp only [Array.toList_push,List.mem_append];exact .inl he) hb⟩
    rw [h0] at this;cases this
   ·have:=(ready_other (j:=j) e).1 hk
    rw [h0] at this;cases this
  ·obtain ⟨q1,q2,o,q3,q4⟩:=jpk.1 hk
   have hcl:=cl_set hc q3 q4
   by_cases hin:k∈Region.ready .any (addE ops i j) L
   ·exact step (fun a w hh=>ih1 _ a w (by simpa using hsz) hcl hh) (h.2 k hin) q1
   ·have e:k=i:=Classical.byContradiction fun e=>hin ((ready_other e).2 hk)
    subst e
    have M:=two L hsz hc hk hin
    obtain ⟨A,el,f,hh⟩:=row_exists H hP hL _ L a w M h
    rw [wp_of_op H.hi H.gd]
    refine .inl ?_
    unfold Oper.wp
    rw [hh w]
    show wpAny P .any ops Q fuel _ (a.put oi.dst _) _
    rw [H.ds]
    exact ih2 L a w A el f M hh h
  ·exfalso
   obtain ⟨k,hk,hki⟩:=M.ready H
   obtain ⟨q1,q2,o,q3,q4⟩:=jpk.1 ((ready_other hki).1 hk)
   have:k∈Region.ready .any ops (L.setIfInBounds i true):=jpk.2 ⟨q1,by rw [get_set,if_neg (fun h=>hki h.1)];exact q2,o,q3,fun e he hb=>by
    rw [get_set];split
    ·rfl
    ·exact q4 e he hb⟩
   rw [h0] at this;cases this
  ·obtain ⟨hki,hk'⟩:=M.back H hk
   obtain ⟨o,ho,ht⟩:=M.tame H hk' hki
   obtain ⟨t1,t2,t3,t4,t5⟩:=tameO_spec ht
   have hs:=h.2 k hk'
   rw [wp_of_op (by rw [addE_ne hki];exact ho) t1] at hs
   obtain ⟨y,w',hK,hsize,hgo⟩:=tame_step t2 hP hL hs
   rw [wp_of_op ho t1]
   refine .inl (hgo _ _ _ _ (exec_put t2 t3) ?_)
   rw [put_comm t4,set_comm,←hsize]
   have hr':∀w2:World,(execOp (a.put o.dst y).eval oi).run P w2=.ok (.value (.slice (some ⟨w2.heap.size,0,none⟩) n n)) (w2.alloc (.cells A el f)):=fun w2=>by rw [exec_row H.op t5];exact hr w2
   by_cases hkj:k=j
   ·subst hkj
    have hrow:=M.row H
    have hq:=hK.2 i hrow
    rw [wp_of_op (addE_eq H.hi) H.gd] at hq
    have hq:=hq.resolve_right fun h=>hL h.2
    unfold Oper.wp at hq
    have hx:execOp (a.put o.dst y).eval { oi with after:=oi.after.push ⟨k,.data⟩ }=execOp (a.put o.dst y).eval oi:=rfl
    rw [hx,hr' w'] at hq
    have hq':wpAny P .any (addE ops i k) Q0 fuel ((L.setIfInBounds k true).setIfInBounds i true) ((a.put o.dst y).put oi.dst (.slice (some ⟨w'.heap.size,0,none⟩) n n)) (w'.alloc (.cells A el f)):=hq
    rw [H.ds] at hq'
    obtain ⟨q1,q2,o2,q3,q4⟩:=jpk.1 ((ready_other hki).1 hk')
    have c1:=cl_set M.cl q3 q4
    refine ih1 _ _ _ (by simpa using M.sz) (cl_set c1 H.hi fun e he hb=>?_) hq'
    rw [get_set];split
    ·rfl
    ·exact M.pre _ (joy (by simpa using H.hi) he hb)
   ·exact ih2 _ _ _ A el f (M.next H hk' hki hkj) hr' hK
end
/-! what den says of the region does not look at the edges -/
section
variable {C:Ctx} {st:St} {i j:Nat}
theorem addE_dst (k:Nat):((addE ops i j)[k]?).bind (·.dst)=(ops[k]?).bind (·.dst):=by
 by_cases e:k=i
 ·subst e
  cases h:ops[k]? with
  | none=>unfold addE;rw [Array.getElem?_modify,if_pos rfl,h];rfl
  | some o=>rw [addE_eq h];rfl
 ·rw [addE_ne e]
theorem guardOf_dst (ops:Array Oper) (st:St) (m:Nat) (b:Bool):guardOf ops st (some (m,b))=(match (ops[m]?).bind (·.dst) with | some t=>(match lk st.l t with | some (p,c,.d (.b x))=>some (p++[(t,b)],c&&gd b x) | _=>none) | none=>none):=by
 unfold guardOf
 cases hm:ops[m]? with
 | none=>simp [hm]
 | some o =>
  cases h:o.dst with
  | none=>simp [hm,h]
  | some t=>simp [hm,h];rfl
theorem guardOf_addE (g:Option (Nat × Bool)):guardOf (addE ops i j) st g=guardOf ops st g:=by
 cases g with
 | none=>rfl
 | some q=>rw [guardOf_dst,guardOf_dst,addE_dst]
theorem looksAt_addE (o:Oper):o.looksAt (addE ops i j)=o.looksAt ops:=by
 unfold Oper.looksAt
 cases o.guard with
 | none=>rfl
 | some q=>simp only [addE_dst]
theorem hitsOf_addE (H:Ctx→St→Op→List Nat) (o:Oper):jtg H C (addE ops i j) st o=jtg H C ops st o:=by
 unfold jtg
 rw [guardOf_addE]
theorem stepD_addE (o:Oper) (k:Nat):stepD C (addE ops i j) o k st=stepD C ops o k st:=by
 unfold stepD
 rw [guardOf_addE]
theorem frame1_addE (ks bs:List Nat) (m:Nat):jrn C (addE ops i j) st ks bs m=jrn C ops st ks bs m:=by
 unfold jrn
 by_cases e:m=i
 ·subst e
  cases h:ops[m]? with
  | none=>unfold addE;rw [Array.getElem?_modify,if_pos rfl,h];rfl
  | some o =>
   rw [addE_eq h]
   simp only [looksAt_addE]
   rfl
 ·rw [addE_ne e]
  cases ops[m]? with
  | none=>rfl
  | some o=>simp only [looksAt_addE]
theorem frames_addE (ks bs:List Nat):∀js:List Nat,jjf C (addE ops i j) st ks bs js=jjf C ops st ks bs js
 | []=>rfl
 | m :: js=>by simp only [jjf,frame1_addE,frames_addE ks bs js]
theorem runDraw_addE (r:List (Nat × Nat × List Nat)):∀(st:St),runDraw C (addE ops i j) r st=runDraw C ops r st:=by
 induction r with
 | nil=>intro _;rfl
 | cons q r ih =>
  intro st
  obtain ⟨m,k,js⟩:=q
  simp only [runDraw]
  by_cases e:m=i
  ·subst e
   cases h:ops[m]? with
   | none =>
    have h2:(addE ops m j)[m]? = none:=by unfold addE;rw [Array.getElem?_modify,if_pos rfl,h];rfl
    rw [h2]
   | some o =>
    rw [addE_eq h]
    have e1:∀H,jtg H C ops st { o with after:=o.after.push ⟨j,.data⟩ }=jtg H C ops st o:=fun _=>rfl
    have e2:stepD C ops { o with after:=o.after.push ⟨j,.data⟩ } k st=stepD C ops o k st:=rfl
    simp only [hitsOf_addE,frames_addE,stepD_addE]
    rw [e1,e1,e2]
    split
    ·cases stepD C ops o k st with
     | none=>rfl
     | some st1=>exact ih st1
    ·rfl
  ·rw [addE_ne e]
   cases ops[m]? with
   | none=>rfl
   | some o =>
    simp only [hitsOf_addE,frames_addE,stepD_addE]
    split
    ·cases stepD C ops o k st with
     | none=>rfl
     | some st1=>exact ih st1
    ·rfl
end
/-! the check -/
def isRowOp (o:Oper):Bool:=match o.op with | .buildSlice _ _ _=>true | _=>false
def isStoreOp (o:Oper):Bool:=match o.op with | .store _ _ _=>true | _=>false
def idxOf (f:Oper→Bool):List Oper→Nat | []=>0 | o :: os=>if f o then 0 else idxOf f os+1
def chkLate (n:Nat) (ops:Array Oper) (order:List (Nat × Nat × List Nat)):Bool :=
 lateOk ops (idxOf isRowOp ops.toList) (idxOf isStoreOp ops.toList)&&jfg n (addE ops (idxOf isRowOp ops.toList) (idxOf isStoreOp ops.toList)) order
def chkDrawL (n:Nat) (ops:Array Oper) (order:List (Nat × Nat × List Nat)):Bool:=if jfg n ops order then true else chkLate n ops order
theorem loOps_addE {p0:List Nat} {i j:Nat} (h:jub p0 ops.toList=true):jub p0 (addE ops i j).toList=true:=by
 unfold jub at h ⊢
 rw [List.all_eq_true] at h ⊢
 intro o ho
 obtain ⟨m,hm⟩:=List.getElem?_of_mem ho
 rw [Array.getElem?_toList] at hm
 by_cases e:m=i
 ·subst e
  cases h1:ops[m]? with
  | none=>unfold addE at hm;rw [Array.getElem?_modify,if_pos rfl,h1] at hm;cases hm
  | some o1 =>
   rw [addE_eq h1] at hm
   cases hm
   exact h o1 (List.mem_of_getElem? (by rw [Array.getElem?_toList];exact h1))
 ·rw [addE_ne e] at hm
  exact h o (List.mem_of_getElem? (by rw [Array.getElem?_toList];exact hm))
theorem draw_soundL {C:Ctx} {R:Rt} {n:Nat} {st st2:St} {Q:Exit→Act→World→Prop} {p0:List Nat} {a0:Act} {order:List (Nat × Nat × List Nat)} (hC:CtxOk C) (H:jzd C R n p0 a0 st a w) (hlo:jub p0 ops.toList=true) (hc:chkDrawL n ops order=true) (hrun:runDraw C ops order st=some st2) (hQ:∀a' w',jzd C R n p0 a0 st2 a' w'→Q .normal a' w') :
  wpAny C.P .any ops Q ops.size (Array.replicate ops.size false) a w:=by
 unfold chkDrawL at hc
 split at hc
 ·rename_i hd
  exact jcw hC H hlo hd hrun hQ
 ·unfold chkLate at hc
  simp only [Bool.and_eq_true] at hc
  obtain ⟨h1,h2⟩:=hc
  obtain ⟨d,m,t,parts,oi,oj,hL⟩:=late_spec h1
  have h:=jcw (Q:=fun e a w=>e=.normal∧Q .normal a w) hC H (loOps_addE hlo) h2 (by rw [runDraw_addE];exact hrun) (fun a' w' hA=>⟨rfl,hQ a' w' hA⟩)
  rw [addE_size] at h
  refine (late_all hL (fun c a w hh=>by cases hh.1) (fun ⟨a,w,hh⟩=>by cases hh.1) (fun e a w hh=>hh.1 ▸ hh.2) _).1 _ _ _ (by simp) (fun k o hk=>?_) h
  simp only [Array.getD_eq_getD_getElem?,Array.getElem?_replicate] at hk
  split at hk<;>simp at hk
end Go.Den

/- Code. -/
namespace Go.Den
open Go
variable {C:Ctx} {R:Rt} {G G0 G1:Gh} {st st1 st2:St} {a:Act} {w w':World} {o:Oper} {v:SV}

def jha (ord:List (Nat × List (Nat × Nat × List Nat))) (n:Nat) (p:List Nat):Code→Bool
 | .region i ops d=>(if d then chkDrawL n ops (lkO ord i) else jbb n [] ops.toList)&&jub p ops.toList
 | .seq a b=>jha ord n p a&&jha ord n p b
 | .cond _ a b=>jha ord n p a&&jha ord n p b
 | .block _ a=>jha ord n p a
 | .loop a=>jha ord n p a
 | _=>true
def exOf:Ex→Exit | .normal=>.normal | .exit i=>.exit i | .ret=>.ret

/-! what a round leaves behind -/
def Gh.keep (G:Gh) (ns:List Nat):Gh:={ G with live:=fun k=>G.live k∧k∈ns }
theorem jkd (ns:List Nat) (h:List (Nat × Blk)):∀(l:List Nat) (n:Nat),hlk (keepH ns h l) n=if n∈l then (hlk h n).map (keepB ns) else none
 | [],n=>by simp [keepH,hlk]
 | k :: r,n=>by
  simp only [keepH]
  cases hb:hlk h k with
  | none =>
   simp only [jkd ns h r n]
   by_cases hkn:n=k
   ·subst hkn;simp [hb]
   ·simp [hkn]
  | some b =>
   simp only [hlk,jkd ns h r n]
   by_cases hkn:k=n
   ·subst hkn;simp [hb]
   ·rw [if_neg hkn];simp [Ne.symm hkn]
theorem jse {ns:List Nat} {h h':List (Nat × Blk)} {G':Gh} {x:SV} {u:Value} (hs:∀n∈ns,Same G h G' h' n) (hx:CRel R G h x u):CRel R G' h' (keepC ns x) u:=jdr (fun n hn _=>hs n hn) hx
theorem jwz {ns:List Nat} {h h':List (Nat × Blk)} {G':Gh} {x:SV} {u:Value} (hs:∀n∈ns,Same G h G' h' n) (hx:VRel R G h x u):VRel R G' h' (keepV ns x) u:=by
 cases x with
 | agg cs =>
  obtain ⟨vs,h1,h2,h3⟩:=hx
  refine ⟨vs,h1,by rw [jvc];exact h2,fun j y hj=>?_⟩
  rw [jrf,Option.map_eq_some_iff] at hj
  obtain ⟨y',hy,rfl⟩:=hj
  obtain ⟨z,h4,h5,h6⟩:=h3 j y' hy
  exact ⟨z,h4,h5,jse hs h6⟩
 | tup vs=>trivial
 | own n=>simp only [keepV];exact jfc (jse hs (x:=.own n) hx)
 | rp n i q=>simp only [keepV];exact jfc (jse hs (x:=.rp n i q) hx)
 | ov n i=>simp only [keepV];exact jfc (jse hs (x:=.ov n i) hx)
 | ptr n q=>simp only [keepV];exact jfc (jse hs (x:=.ptr n q) hx)
 | fp f n q=>simp only [keepV];exact jfc (jse hs (x:=.fp f n q) hx)
 | op b cs=>exact hx
 | fb f cs=>exact hx
 | bx n j x=>exact hx
 | d x=>exact hx
 | nils=>exact hx
 | nilp=>exact hx
 | pv cs o=>exact hx
 | fn f=>exact hx
 | undef=>trivial
theorem jgr (ns:List Nat):∀(ks:List Nat) (m:List SV) (t:Nat),lkm ks (keepM ns m) t=keepV ns (lkm ks m t)
 | [],m,t=>by cases m<;>rfl
 | k :: ks,[],t=>rfl
 | k :: ks,v :: vs,t=>by simp only [keepM,lkm,jgr ns ks vs t];split<;>rfl
theorem jpq (ns:List Nat):∀(m:List SV),(keepM ns m).length=m.length
 | []=>rfl
 | v :: vs=>by simp [keepM,jpq ns vs]
theorem jgt {ns:List Nat} (H:Inv C R G st a w) (hl:st.l=[]) (hfix:∀n b,R.fix n=some b→n∈ns):Inv C R (G.keep ns) (trim ns st) a w:=by
 have hs:∀n∈ns,Same G st.h (G.keep ns) (trim ns st).h n:=fun n hn hlive=>⟨⟨hlive,hn⟩,rfl,rfl,fun e sz xs hx=>⟨xs,by
  show hlk (keepH ns st.h ns) n=_
  rw [jkd,if_pos hn,hx];rfl⟩⟩
 refine ⟨H.W,⟨fun n hn _=>?_,fun n m hn _ hm _=>H.B.disj n m hn.1 id hm.1 id,fun n hn _=>H.B.mine n hn.1 id,fun n b hf=>?_⟩,fun _ _ _=>id,fun t=>?_,fun t q c v h=>(by cases h),by simp only [trim,jpq];exact H.m⟩
 ·obtain ⟨b,h1,h2⟩:=H.B.rel n hn.1 id
  cases b with
  | row e sz xs =>
   refine ⟨.row e sz xs,?_,h2⟩
   show hlk (keepH ns st.h ns) n=_
   rw [jkd,if_pos hn.2,h1];rfl
  | box cs =>
   obtain ⟨cur,e,r1,r2,r3,r4,r5⟩:=h2
   refine ⟨.box (keepCs ns cs),?_,cur,e,r1,r2,by rw [jvc];exact r3,by rw [jvc];exact r4,fun j x hj=>?_⟩
   ·show hlk (keepH ns st.h ns) n=_
    rw [jkd,if_pos hn.2,h1];rfl
   ·rw [jrf,Option.map_eq_some_iff] at hj
    obtain ⟨y,hy,rfl⟩:=hj
    obtain ⟨u,k1,k2,k3⟩:=r5 j y hy
    exact ⟨u,k1,k2,jse hs k3⟩
 ·obtain ⟨h1,h2,h3⟩:=H.B.fix n b hf
  obtain ⟨cs,hc⟩:=h3 id
  refine ⟨⟨h1,hfix n b hf⟩,h2,fun _=>⟨keepCs ns cs,?_⟩⟩
  show hlk (keepH ns st.h ns) n=_
  rw [jkd,if_pos (hfix n b hf),hc];rfl
 ·have hx:=H.slots t
  unfold jma at hx ⊢
  rw [hl] at hx
  simp only [trim,lk] at hx ⊢
  rw [jgr]
  exact jwz hs hx
/-! names of own rows -/
def Gh.ren (G:Gh) (k k':Nat):Gh:={ live:=fun n=>if n=k' then G.live k else if n=k then False else G.live n,base:=fun n=>if n=k' then G.base k else G.base n,hv:=fun n=>if n=k' then G.hv k else G.hv n,φ:=fun n=>if n=k' then G.φ k else G.φ n }
theorem jwm (k k':Nat) (hne:k≠k'):∀(h:List (Nat × Blk)) (n:Nat),hlk h k'=none→hlk (renH k k' h) n=if n=k' then (hlk h k).map (renB k k') else if n=k then none else (hlk h n).map (renB k k')
 | [],n,_=>by simp [renH,hlk]
 | (b,v) :: r,n,hk'=>by
  simp only [hlk] at hk'
  by_cases hb:b=k'
  ·rw [if_pos hb] at hk';cases hk'
  ·rw [if_neg hb] at hk'
   simp only [renH,hlk,jwm k k' hne r n hk']
   by_cases hbk:b=k
   ·subst hbk
    simp only [if_true]
    by_cases hn:n=k'
    ·simp [hn]
    ·rw [if_neg (Ne.symm hn),if_neg hn,if_neg hn]
     by_cases hnb:n=b
     ·simp [hnb]
     ·simp [hnb,Ne.symm hnb]
   ·simp only [if_neg hbk]
    by_cases hn:n=k'
    ·subst hn;simp [hb]
    ·simp only [if_neg hn]
     by_cases hnk:n=k
     ·subst hnk;simp [hbk]
     ·by_cases hbn:b=n
      ·simp [hbn,hnk]
      ·simp [hbn,hnk]
theorem jlh (k k':Nat):∀(cs:List SV),(jxe k k' cs).length=cs.length
 | []=>rfl
 | c :: cs=>by simp [jxe,jlh k k' cs]
theorem jfk (k k':Nat):∀(cs:List SV) (j:Nat),(jxe k k' cs)[j]? = (cs[j]?).map (renC k k')
 | [],j=>by simp [jxe]
 | c :: cs,0=>by simp [jxe]
 | c :: cs,j+1=>by simp [jxe,jfk k k' cs]
theorem jcq (k k':Nat):∀(cs:List SV),(jmh k k' cs).length=cs.length
 | []=>rfl
 | c :: cs=>by simp [jmh,jcq k k' cs]
theorem jxp (k k':Nat):∀(cs:List SV) (j:Nat),(jmh k k' cs)[j]? = (cs[j]?).map (renA k k')
 | [],j=>by simp [jmh]
 | c :: cs,0=>by simp [jmh]
 | c :: cs,j+1=>by simp [jmh,jxp k k' cs]
theorem jdt (k k':Nat):∀(m:List SV),(renM k k' m).length=m.length
 | []=>rfl
 | v :: vs=>by simp [renM,jdt k k' vs]
theorem jht (k k':Nat):∀(ks:List Nat) (m:List SV) (t:Nat),lkm ks (renM k k' m) t=renV k k' (lkm ks m t)
 | [],m,t=>by cases m<;>rfl
 | a :: ks,[],t=>rfl
 | a :: ks,v :: vs,t=>by simp only [renM,lkm,jht k k' ks vs t];split<;>rfl
section
variable {k k':Nat}
theorem jbn (hne:k≠k') (hlv:∀n,G.live n→n≠k') (hk':hlk st.h k'=none) {x:SV} {u:Value} (hx:CRel R G st.h x u):CRel R (G.ren k k') (renH k k' st.h) (renC k k' x) u:=by
 have nm:∀n,G.live n→(G.ren k k').live (if n=k then k' else n)∧(G.ren k k').base (if n=k then k' else n)=G.base n∧(G.ren k k').hv (if n=k then k' else n)=G.hv n:=fun n hn=>by
  have h1:=hlv n hn
  by_cases e:n=k
  ·subst e;simp [Gh.ren,hn]
  ·simp [Gh.ren,e,h1,hn]
 cases x with
 | own n=>obtain ⟨h1,h2,h3⟩:=hx;obtain ⟨a1,_,a3⟩:=nm n h1;exact ⟨a1,by rw [a3];exact h2,h3⟩
 | ptr n o=>obtain ⟨h1,h2⟩:=hx;obtain ⟨a1,a2,_⟩:=nm n h1;exact ⟨a1,by rw [a2];exact h2⟩
 | fp f n o=>obtain ⟨h1,h2⟩:=hx;obtain ⟨a1,a2,_⟩:=nm n h1;exact ⟨a1,by rw [a2];exact h2⟩
 | rp n i o =>
  obtain ⟨h1,e,sz,xs,h2,g,b,len,cap,h3,h4⟩:=hx
  obtain ⟨a1,_,a3⟩:=nm n h1
  refine ⟨a1,e,sz,xs,?_,g,b,len,cap,by rw [a3];exact h3,h4⟩
  rw [jwm k k' hne _ _ hk']
  have h5:=hlv n h1
  by_cases en:n=k
  ·subst en;simp [h2,renB]
  ·simp [en,h5,h2,renB]
 | ov n i=>obtain ⟨h1,A,len,cap,h2,h3,h4⟩:=hx;obtain ⟨a1,_,a3⟩:=nm n h1;exact ⟨a1,A,len,cap,by rw [a3];exact h2,h3,h4⟩
 | _=>exact hx
theorem jjs (hne:k≠k') (hlv:∀n,G.live n→n≠k') (hk':hlk st.h k'=none) {x:SV} {u:Value} (hx:ARel R G st.h x u):ARel R (G.ren k k') (renH k k' st.h) (renA k k' x) u:=by
 by_cases hc:∃cs,x=.agg cs
 ·obtain ⟨cs,rfl⟩:=hc
  obtain ⟨vs,h1,h2,h3⟩:=hx
  refine ⟨vs,h1,by rw [jlh];exact h2,fun j y hj=>?_⟩
  rw [jfk,Option.map_eq_some_iff] at hj
  obtain ⟨y',hy,rfl⟩:=hj
  obtain ⟨z,h4,h5,h6⟩:=h3 j y' hy
  exact ⟨z,h4,h5,jbn hne hlv hk' h6⟩
 ·have hc':∀cs,x≠.agg cs:=fun cs e=>hc ⟨cs,e⟩
  rw [jfl hc'] at hx
  have e1:renA k k' x=renC k k' x:=by cases x<;>first | rfl | exact absurd rfl (hc' _)
  rw [e1]
  have hc2:∀cs,renC k k' x≠.agg cs:=fun cs e=>by cases x<;>simp [renC] at e;exact hc' _ rfl
  rw [jfl hc2]
  exact jbn hne hlv hk' hx
theorem jry (hne:k≠k') (hlv:∀n,G.live n→n≠k') (hk':hlk st.h k'=none) {x:SV} {u:Value} (hx:VRel R G st.h x u):VRel R (G.ren k k') (renH k k' st.h) (renV k k' x) u:=by
 by_cases hc:∃cs,x=.tup cs
 ·obtain ⟨cs,rfl⟩:=hc
  obtain ⟨vs,h1,h2,h3⟩:=hx
  refine ⟨vs,h1,by rw [jcq];exact h2,fun j y hj=>?_⟩
  rw [jxp,Option.map_eq_some_iff] at hj
  obtain ⟨y',hy,rfl⟩:=hj
  obtain ⟨z,h4,h5⟩:=h3 j y' hy
  exact ⟨z,h4,jjs hne hlv hk' h5⟩
 ·have hc':∀cs,x≠.tup cs:=fun cs e=>hc ⟨cs,e⟩
  rw [jni hc'] at hx
  have e1:renV k k' x=renA k k' x:=by cases x<;>first | rfl | exact absurd rfl (hc' _)
  rw [e1]
  have hc2:∀cs,renA k k' x≠.tup cs:=fun cs e=>by cases x<;>simp [renA,renC] at e;exact hc' _ rfl
  rw [jni hc2]
  exact jjs hne hlv hk' hx
theorem ren_inv (H:Inv C R G st a w) (hl:st.l=[]) (hk:∃e sz xs,hlk st.h k=some (.row e sz xs)) (hk':hlk st.h k'=none) (hne:k≠k'):Inv C R (G.ren k k') (ren k k' st) a w:=by
 have hlv:∀n,G.live n→n≠k':=fun n hn e=>by
  subst e
  obtain ⟨b,hb,_⟩:=H.B.rel n hn id
  rw [hk'] at hb;cases hb
 have hh:∀n,hlk (ren k k' st).h n=if n=k' then (hlk st.h k).map (renB k k') else if n=k then none else (hlk st.h n).map (renB k k'):=fun n=>jwm k k' hne st.h n hk'
 have old:∀n,(G.ren k k').live n→∃n0,G.live n0∧n=(if n0=k then k' else n0)∧(G.ren k k').base n=G.base n0∧(G.ren k k').hv n=G.hv n0∧(G.ren k k').φ n=G.φ n0∧hlk (ren k k' st).h n=(hlk st.h n0).map (renB k k'):=fun n hn=>by
  rw [hh]
  simp only [Gh.ren] at hn
  by_cases e:n=k'
  ·subst e
   rw [if_pos rfl] at hn
   exact ⟨k,hn,by simp,by simp [Gh.ren],by simp [Gh.ren],by simp [Gh.ren],by simp⟩
  ·rw [if_neg e] at hn
   by_cases e2:n=k
   ·rw [if_pos e2] at hn;exact hn.elim
   ·rw [if_neg e2] at hn
    exact ⟨n,hn,by simp [e2],by simp [Gh.ren,e],by simp [Gh.ren,e],by simp [Gh.ren,e],by simp [e,e2]⟩
 refine ⟨H.W,⟨fun n hn _=>?_,fun n m hn _ hm _ hnm j hj1 hj2=>?_,fun n hn _ j hj=>?_,fun n b hf=>?_⟩,fun _ _ _=>id,fun t=>?_,by show PI st.l;exact H.l,by show (renM k k' st.m).length=_;rw [jdt];exact H.m⟩
 ·obtain ⟨n0,h1,h2,h3,h4,h5,h6⟩:=old n hn
  obtain ⟨b,hb,hbr⟩:=H.B.rel n0 h1 id
  refine ⟨renB k k' b,by rw [h6,hb];rfl,?_⟩
  cases b with
  | row e sz xs =>
   show RowX w e sz ((G.ren k k').φ n) xs ((G.ren k k').hv n)∧_
   rw [h4,h5];exact hbr
  | box cs =>
   obtain ⟨cur,e,r1,r2,r3,r4,r5⟩:=hbr
   refine ⟨cur,e,by rw [h3];exact r1,by rw [h3,h5];exact r2,by rw [h3,jlh];exact r3,by rw [h3,jlh];exact r4,fun j x hj=>?_⟩
   rw [jfk,Option.map_eq_some_iff] at hj
   obtain ⟨y,hy,rfl⟩:=hj
   obtain ⟨u,k1,k2,k3⟩:=r5 j y hy
   exact ⟨u,by rw [h3];exact k1,k2,jbn hne hlv hk' k3⟩
 ·obtain ⟨n0,h1,h2,_,_,h5,_⟩:=old n hn
  obtain ⟨m0,g1,g2,_,_,g5,_⟩:=old m hm
  rw [h5] at hj1;rw [g5] at hj2
  exact H.B.disj n0 m0 h1 id g1 id (fun e=>hnm (by rw [h2,g2,e])) j hj1 hj2
 ·obtain ⟨n0,h1,_,_,_,h5,_⟩:=old n hn
  rw [h5] at hj
  exact H.B.mine n0 h1 id j hj
 ·obtain ⟨h1,h2,h3⟩:=H.B.fix n b hf
  obtain ⟨cs,hc⟩:=h3 id
  obtain ⟨e,sz,xs,hrow⟩:=hk
  have e1:n≠k:=fun e=>by subst e;rw [hrow] at hc;cases hc
  have e2:=hlv n h1
  exact ⟨by simp [Gh.ren,e1,e2,h1],by simp [Gh.ren,e2,h2],fun _=>⟨jxe k k' cs,by rw [hh];simp [e1,e2,hc,renB]⟩⟩
 ·have hx:=H.slots t
  unfold jma at hx ⊢
  rw [hl] at hx
  rw [show (ren k k' st).l=[] from hl]
  simp only [lk] at hx ⊢
  rw [show (ren k k' st).m=renM k k' st.m from rfl,jht]
  exact jry hne hlv hk' hx
end
theorem jxc (n:Nat):∀(cs:List SV) (j:Nat) (sn:List Nat) (st:St) (G:Gh),Inv C R G st a w→st.l=[]→∃G',Inv C R G' (jfe n j cs sn st).1 a w∧(jfe n j cs sn st).1.l=[]
 | [],j,sn,st,G,H,hl=>⟨G,H,hl⟩
 | c :: cs,j,sn,st,G,H,hl=>by
  cases c with
  | own k =>
   simp only [jfe]
   split
   ·exact jxc n cs (j+1) sn st G H hl
   ·split
    ·exact jxc n cs (j+1) _ st G H hl
    ·rename_i hne
     split
     ·rename_i e sz xs h1 h2
      exact jxc n cs (j+1) _ _ _ (ren_inv H hl ⟨e,sz,xs,h1⟩ h2 hne) hl
     ·exact jxc n cs (j+1) _ st G H hl
  | _=>exact jxc n cs (j+1) sn st G H hl
theorem jxi:∀(h:List (Nat × Blk)) (sn:List Nat) (st:St) (G:Gh),Inv C R G st a w→st.l=[]→∃G',Inv C R G' (jll h sn st) a w∧(jll h sn st).l=[]
 | [],sn,st,G,H,hl=>⟨G,H,hl⟩
 | (n,b) :: r,sn,st,G,H,hl=>by
  cases b with
  | row e sz xs=>exact jxi r sn st G H hl
  | box cs =>
   obtain ⟨G1,H1,hl1⟩:=jxc n cs 0 sn st G H hl
   exact jxi r _ _ G1 H1 hl1
theorem jwt {n:Nat} {p:List Nat} {a0:Act} (H:jzd C R n p a0 st a w):jzd C R n p a0 (jww st) a w:=by
 obtain ⟨G,H1,hl,hs,hd⟩:=H
 obtain ⟨G',H2,hl2⟩:=jxi st.h [] st G H1 hl
 exact ⟨G',H2,hl2,hs,hd⟩
theorem jhz {w:World} {e sz:Nat}:RowX w e sz (fun _=>False) [] (.slice none 0 0):=.inl (.inl ⟨rfl,rfl⟩)
theorem jlx {P:Program} {e sz:Nat} (h:eokB P e sz=true):EOk P e sz:=by
 unfold eokB at h
 rw [Bool.and_eq_true] at h
 obtain ⟨h1,h2⟩:=h
 rw [Bool.or_eq_true] at h1
 rcases h1 with h1 | h1
 ·exact ⟨.inl (by simpa using h1),by simpa using h2⟩
 split at h1
 ·rename_i i hi;exact ⟨.inr ⟨i,hi,by simpa using h1⟩,by simpa using h2⟩
 ·cases h1
theorem jas {C:Ctx} {R:Rt} {G:Gh} {st:St} {a:Act} {w:World} {m e sz:Nat} (H:Inv C R G st a w) (hm:hlk st.h m=none) (hE:EOk C.P e sz):Inv C R (G.add m (0,0) (.slice none 0 0) (fun _=>False)) { st with h:=st.h++[(m,.row e sz [])] } a w :=
 jeg H hm id (fun k hk=>hk.elim) (fun k m hk=>hk.elim) ⟨by simpa [Gh.add] using jhz,hE.1,hE.2,fun k lo hi hk=>by simp [Gh.add] at hk⟩
theorem jlz {C:Ctx} {R:Rt} {G:Gh} {st:St} {a:Act} {w:World} {n:Nat} {cs cs':List SV} (H:Inv C R G st a w) (hl:¬ G.live n) (hb:hlk st.h n=some (.box cs)):Inv C R G { st with h:=hset st.h n (.box cs') } a w:=by
 have hs:=jkq (G:=G) (cs':=cs') hb
 refine ⟨H.W,⟨fun k hk _=>?_,fun k m hk _ hm _=>H.B.disj k m hk id hm id,fun k hk _=>H.B.mine k hk id,fun k b' hf=>?_⟩,fun _ _ _=>id,fun t=>jib hs (H.slots t),H.l,H.m⟩
 ·obtain ⟨b,h1,h2⟩:=H.B.rel k hk id
  have hkn:¬ k=n:=fun e=>hl (e ▸ hk)
  exact ⟨b,by simp [jga,hkn,h1],jhb hs rfl rfl rfl h2⟩
 ·obtain ⟨h1,h2,h3⟩:=H.B.fix k b' hf
  have hkn:¬ k=n:=fun e=>hl (e ▸ h1)
  obtain ⟨ds,hc⟩:=h3 id
  exact ⟨h1,h2,fun _=>⟨ds,by simp [jga,hkn,hc]⟩⟩
theorem jcx {C:Ctx} {R:Rt} {G:Gh} {st:St} {a:Act} {w:World} (n j e sz:Nat) (H:Inv C R G st a w) (hl:st.l=[]):∃G',Inv C R G' (jtr C n j e sz st) a w∧(jtr C n j e sz st).l=[]:=by
 unfold jtr
 split
 ·rename_i cs hb hm
  split
  ·rename_i hc
   split
   ·rename_i hE
    have H1:=jas H hm (jlx hE)
    have hne:¬ nm n (j+1)=n:=fun e=>by rw [e,hb] at hm;cases hm
    have hb1:hlk (st.h++[(nm n (j+1),.row e sz [])]) n=some (.box cs):=by rw [jka,hb]
    rw [nth?_eq] at hc
    have hj:j+1≤cs.length:=by have:=(List.getElem?_eq_some_iff.1 hc).1;omega
    have hsr:=jxb cs j [.own (nm n (j+1))] hj
    by_cases hlv:(G.add (nm n (j+1)) (0,0) (.slice none 0 0) (fun _=>False)).live n
    ·obtain ⟨b,hb2,hbr⟩:=H1.B.rel n hlv id
     rw [show ({ st with h:=st.h++[(nm n (j+1),.row e sz [])] }:St).h=st.h++[(nm n (j+1),.row e sz [])] from rfl,hb1] at hb2
     cases hb2
     obtain ⟨cur,e',r1,r2,r3,r4,r5⟩:=hbr
     refine ⟨_,(jiu (w':=w) (cur':=cur) H1 hlv hb1 ⟨rfl,rfl,rfl,rfl,r1,r1,rfl,fun _ _=>rfl⟩ hsr.1 (fun _ _=>rfl) (fun i x hx=>?_)).1,hl⟩
     rw [hsr.2] at hx
     by_cases hi:j≤i∧i < j + [SV.own (nm n (j+1))].length
     ·rw [if_pos hi] at hx
      have:i=j:=by simp at hi;omega
      subst this
      simp at hx
      subst hx
      obtain ⟨u,k1,k2,k3⟩:=r5 i _ hc
      exact ⟨u,k1,k2,.inr rfl,by rw [show u=.slice none 0 0 from k3];simp [Gh.add],k2⟩
     ·rw [if_neg hi] at hx
      exact r5 i x hx
    ·exact ⟨_,jlz H1 hlv hb1,hl⟩
   ·exact ⟨G,H,hl⟩
  ·exact ⟨G,H,hl⟩
 ·exact ⟨G,H,hl⟩
theorem jrx {C:Ctx} {R:Rt} {G:Gh} {st:St} {a:Act} {w:World} (t e sz:Nat) (H:Inv C R G st a w) (hl:st.l=[]):∃G',Inv C R G' (jrr C t e sz st) a w∧(jrr C t e sz st).l=[]:=by
 unfold jrr
 split
 ·rename_i hc hm
  split
  ·rename_i hE
   rw [Bool.and_eq_true] at hE
   have H1:=jas H hm (jlx hE.2)
   refine ⟨_,⟨H1.W,H1.B,H1.all,fun u=>?_,H1.l,by rw [←H1.m];exact jvl _ _ _ _⟩,hl⟩
   have hx:=H1.slots u
   unfold jma at hx ⊢
   rw [show ({ st with h:=st.h++[(nm t 60,.row e sz [])] }:St).l=[] from hl] at hx
   rw [show ({ st with m:=stm C.keep st.m t (.own (nm t 60)),h:=st.h++[(nm t 60,.row e sz [])] }:St).l=[] from hl]
   simp only [lk] at hx ⊢
   rw [jac hE.1 H.m]
   by_cases hu:u=t
   ·subst hu
    rw [if_pos rfl]
    rw [hc] at hx
    exact ⟨.inr rfl,by rw [show a.tmps.getD u undef=.slice none 0 0 from hx];simp [Gh.add],by rw [show a.tmps.getD u undef=.slice none 0 0 from hx];rfl⟩
   ·rw [if_neg hu];exact hx
  ·exact ⟨G,H,hl⟩
 ·exact ⟨G,H,hl⟩
theorem jgx {C:Ctx} {R:Rt} {G:Gh} {st:St} {a:Act} {w:World} (n:Nat) (H:Inv C R G st a w) (hl:st.l=[]):∃G',Inv C R G' (jsr n st) a w∧(jsr n st).l=[]:=by
 unfold jsr
 split
 ·rename_i e sz xs hr
  exact ⟨_,jch H hr,by show killL n st.l=[];rw [hl];rfl⟩
 ·exact ⟨G,H,hl⟩
theorem jkf {C:Ctx} {R:Rt} {a:Act} {w:World}:∀(r:List (Nat × Nat × List Nat)) (st:St) (G:Gh),Inv C R G st a w→st.l=[]→∃G',Inv C R G' (wakes C r st) a w∧(wakes C r st).l=[]
 | [],st,G,H,hl=>⟨G,H,hl⟩
 | (n,j,l) :: r,st,G,H,hl=>by
  unfold wakes
  split
  ·rename_i h;cases h
  ·rename_i h
   cases h
   obtain ⟨G1,H1,hl1⟩:=jgx _ H hl
   exact jkf _ _ G1 H1 hl1
  ·rename_i h
   cases h
   obtain ⟨G1,H1,hl1⟩:=jcx _ _ _ _ H hl
   exact jkf _ _ G1 H1 hl1
  ·rename_i h
   cases h
   obtain ⟨G1,H1,hl1⟩:=jrx _ _ _ H hl
   exact jkf _ _ G1 H1 hl1
  ·rename_i h
   cases h
   exact jkf _ _ G H hl
theorem jfu (n:Nat) (b:Blk) (k:Nat):∀(r:List (Nat × Blk)),hlk (insH n b r) k=if n=k then some b else hlk r k
 | []=>rfl
 | (j,x) :: r=>by
  simp only [insH]
  split
  ·rfl
  ·simp only [hlk]
   split
   ·rename_i h1 h2;subst h2;rw [if_neg (by omega)]
   ·exact jfu n b k r
theorem jns (k:Nat):∀(h:List (Nat × Blk)),hlk (jmr h) k=hlk h k
 | []=>rfl
 | (n,b) :: r=>by simp only [jmr,jfu,hlk,jns k r]
theorem inv_hlk {C:Ctx} {R:Rt} {G:Gh} {st:St} {a:Act} {w:World} {h':List (Nat × Blk)} (H:Inv C R G st a w) (e:∀n,hlk h' n=hlk st.h n):Inv C R G ⟨st.m,st.l,h'⟩ a w:=by
 have hs:∀n,Same G st.h G h' n:=fun n hl=>⟨hl,rfl,rfl,fun e' sz xs hx=>⟨xs,by rw [e];exact hx⟩⟩
 refine ⟨H.W,⟨fun k hk _=>?_,fun k m hk _ hm _=>H.B.disj k m hk id hm id,fun k hk _=>H.B.mine k hk id,fun k b' hf=>?_⟩,fun _ _ _=>id,fun t=>jib hs (H.slots t),H.l,H.m⟩
 ·obtain ⟨b,h1,h2⟩:=H.B.rel k hk id
  exact ⟨b,by show hlk h' k=_;rw [e,h1],jhb hs rfl rfl rfl h2⟩
 ·obtain ⟨h1,h2,h3⟩:=H.B.fix k b' hf
  obtain ⟨ds,hc⟩:=h3 id
  exact ⟨h1,h2,fun _=>⟨ds,by show hlk h' k=_;rw [e,hc]⟩⟩
theorem jwq {C:Ctx} {R:Rt} {a:Act} {w:World} {st:St} {n:Nat} {p:List Nat} {a0:Act} (i:Nat) (H:jzd C R n p a0 st a w):jzd C R n p a0 (endS C i st) a w:=by
 obtain ⟨G0,H0,hl0,hs0,hd0⟩:=H
 obtain ⟨Ga,Ha,hla⟩:=jkf (lkO C.ord (i+3000000)) st G0 H0 hl0
 obtain ⟨G,H1,hl,hs,hd⟩:=jwt (n:=n) (p:=p) (a0:=a0) ⟨Ga,Ha,hla,hs0,hd0⟩
 obtain ⟨G',H2,hl2⟩:=jkf _ _ G H1 hl
 exact ⟨G',inv_hlk H2 (fun n=>jns n _),hl2,hs,hd⟩
theorem jsq:∀{h:List (Nat × Blk)} {n:Nat} {b:Blk},hlk h n=some b→n∈names h
 | [],n,b,h=>by cases h
 | (k,x) :: r,n,b,h=>by
  simp only [hlk] at h
  simp only [names,List.mem_cons]
  split at h
  ·rename_i e;exact .inl e.symm
  ·exact .inr (jsq h)

theorem jox (hC:CtxOk C) (n:Nat) (p:List Nat) (a0:Act) (k:Nat):∀(c:Code) (st st':St) (ex:Ex) (a:Act) (w:World) (Q:Exit→Act→World→Prop),den C k c st=some (ex,st')→jzd C R n p a0 st a w→jha C.ord n p c=true→(∀a' w',jzd C R n p a0 st' a' w'→Q (exOf ex) a' w')→c.wp C.P Q a w:=by
 intro c
 induction c with
 | skip=>intro st st' ex a w Q h H _ hQ;simp only [den] at h;cases h;exact wp_skip (hQ a w H)
 | exit i=>intro st st' ex a w Q h H _ hQ;simp only [den] at h;cases h;exact wp_exit (hQ a w H)
 | ret=>intro st st' ex a w Q h H _ hQ;simp only [den] at h;cases h;exact wp_ret (hQ a w H)
 | region i ops d =>
  intro st st' ex a w Q h H hc hQ
  cases d with
  | false =>
   simp only [jha,Bool.false_eq_true,if_false,Bool.and_eq_true] at hc
   obtain ⟨hc,hlo⟩:=hc
   simp only [den,Bool.false_eq_true,if_false] at h
   rw [Option.map_eq_some_iff] at h
   obtain ⟨st2,h1,h2⟩:=h
   cases h2
   obtain ⟨G,H1,hl,hs,hd⟩:=H
   refine wp_region ?_
   have hlen:ops.size=ops.toList.length:=by simp
   rw [List.range_eq_range',hlen]
   exact jct hC H1 hl (by rw [hs];exact hc) hlo h1 (fun a' w' G' k1 k2 k3 k4=>hQ a' w' (jwq _ ⟨G',k1,k2,k3.trans hs,hd.trans k4⟩))
  | true =>
   simp only [jha,if_true,Bool.and_eq_true] at hc
   obtain ⟨hc,hlo⟩:=hc
   simp only [den,if_true] at h
   rw [Option.map_eq_some_iff] at h
   obtain ⟨st2,h1,h2⟩:=h
   cases h2
   refine wp_region_any hC.mixed ?_
   obtain ⟨G,H1,hl,hs,hd⟩:=H
   exact draw_soundL hC ⟨G,jtc H1 ⟨rfl,rfl,rfl,Nat.le_refl _,fun _ _=>rfl⟩,hl,hs,hd⟩ hlo hc h1 (fun a' w' hA=>hQ a' w' (jwq _ hA))
 | seq x y ihx ihy =>
  intro st st' ex a w Q h H hc hQ
  simp only [jha,Bool.and_eq_true] at hc
  simp only [den] at h
  refine wp_seq ?_
  cases hx:den C k x st with
  | none=>rw [hx] at h;simp [joi] at h
  | some r =>
   obtain ⟨e1,st1⟩:=r
   rw [hx] at h
   refine ihx st st1 e1 a w _ hx H hc.1 (fun a' w' H'=>?_)
   cases e1 with
   | normal=>exact ihy st1 st' ex a' w' Q h H' hc.2 hQ
   | exit i=>simp only [joi] at h;cases h;exact hQ a' w' H'
   | ret=>simp only [joi] at h;cases h;exact hQ a' w' H'
 | cond c x y ihx ihy =>
  intro st st' ex a w Q h H hc hQ
  simp only [jha,Bool.and_eq_true] at hc
  simp only [den] at h
  split at h
  ·rename_i b hb
   obtain ⟨G,H1,hl,hs,hd⟩:=H
   have hv:a.eval c=.bool b:=jkc (H1.evE hb)
   refine wp_cond hv ?_
   cases b with
   | true=>exact ihx st st' ex a w Q (by simpa using h) ⟨G,H1,hl,hs,hd⟩ hc.1 hQ
   | false=>exact ihy st st' ex a w Q (by simpa using h) ⟨G,H1,hl,hs,hd⟩ hc.2 hQ
  ·cases h
 | block i x ih =>
  intro st st' ex a w Q h H hc hQ
  simp only [jha] at hc
  simp only [den] at h
  refine wp_block ?_
  cases hx:den C k x st with
  | none=>rw [hx] at h;simp [jjb] at h
  | some r =>
   obtain ⟨e1,st1⟩:=r
   rw [hx] at h
   refine ih st st1 e1 a w _ hx H hc (fun a' w' H'=>?_)
   cases e1 with
   | normal=>simp only [jjb] at h;cases h;exact hQ a' w' H'
   | exit j =>
    simp only [jjb] at h
    show (if j=i then Q .normal a' w' else Q (.exit j) a' w')
    split at h
    ·rename_i e;rw [if_pos e];cases h;exact hQ a' w' H'
    ·rename_i e;rw [if_neg e];cases h;exact hQ a' w' H'
   | ret=>simp only [jjb] at h;cases h;exact hQ a' w' H'
 | loop x ih =>
  intro st st' ex a w Q h H hc hQ
  simp only [jha] at hc
  simp only [den] at h
  refine wp_loop_rounds k ?_
  have hfix:∀m b,R.fix m=some b→m∈loopN C (names st.h):=fun m b hf=>by
   obtain ⟨G,H1,_⟩:=H
   obtain ⟨_,_,h3⟩:=H1.B.fix m b hf
   obtain ⟨cs,hcs⟩:=h3 id
   exact List.mem_append_left _ (jsq hcs)
  generalize loopN C (names st.h)=ns at h hfix
  have key:∀(m:Nat) (st:St) (a:Act) (w:World),iter ns (den C k x) m st=some (ex,st')→jzd C R n p a0 st a w→Code.rounds C.P x Q m a w:=by
   intro m
   induction m with
   | zero=>intro st a w h _;simp [iter] at h
   | succ m ihm =>
    intro st a w h H
    simp only [iter] at h
    rw [rounds_succ]
    cases hx:den C k x st with
    | none=>rw [hx] at h;cases h
    | some r =>
     obtain ⟨e1,st1⟩:=r
     rw [hx] at h
     refine ih st st1 e1 a w _ hx H hc (fun a' w' H'=>?_)
     obtain ⟨G',H1,hl,hs,hd⟩:=H'
     cases e1 with
     | normal=>exact ihm (trim ns st1) a' w' h ⟨_,jgt H1 hl hfix,rfl,hs,hd⟩
     | exit j=>dsimp only at h;cases h;exact hQ a' w' ⟨_,jgt H1 hl hfix,rfl,hs,hd⟩
     | ret=>dsimp only at h;cases h;exact hQ a' w' ⟨G',H1,hl,hs,hd⟩
  exact key k st a w h H
 | _=>intro st st' ex a w Q h;simp [den] at h
end Go.Den

/- Results. -/
namespace Go.Den
open Go
variable {C:Ctx} {R:Rt} {G G0 G1:Gh} {st st1 st2:St} {a:Act} {w w':World} {o:Oper} {v:SV}

def jbh (tmps:Array Value):ResultVar→Sem Value
 | .tmp t=>pure (tmps.getD t undef)
 | .cell a t=>do loadVar t (←asAddr (tmps.getD a undef))
def jzg (P:Program) (tmps:Array Value) (w:World) (r:ResultVar) (v:Value):Prop:=(jbh tmps r).run P w=.ok v w
theorem jzj {P:Program} {tmps:Array Value}:∀(rs:List ResultVar) (vs:List Value),rs.length=vs.length→(∀(j:Nat) r v,rs[j]? = some r→vs[j]? = some v→jzg P tmps w r v) →
  (rs.mapM (jbh tmps)).run P w=.ok vs w
 | [],[],_,_=>by simp
 | r :: rs,v :: vs,hl,h=>by
  have h1:=h 0 r v rfl rfl
  have h2:=jzj rs vs (by simpa using hl) (fun j r v hr hv=>h (j+1) r v (by simpa using hr) (by simpa using hv))
  unfold jzg at h1
  rw [List.mapM_cons]
  simp only [Sem.run_bind]
  rw [h1]
  simp only [Result.andThen_ok]
  rw [h2]
  simp
 | [],_ :: _,hl,_=>by simp at hl
 | _ :: _,[],hl,_=>by simp at hl
theorem jqv (fn:Func) (tmps:Array Value):results fn tmps=(do
  let vs ←fn.results.mapM (jbh tmps)
  pure (if h:vs.size=1 then vs[0] else .tuple vs)):=by
 unfold results
 congr 1
theorem jqm {P:Program} {fn:Func} {tmps:Array Value} {vs:List Value} (hl:fn.results.toList.length=vs.length) (h:∀(j:Nat) r v,fn.results.toList[j]? = some r→vs[j]? = some v→jzg P tmps w r v):(results fn tmps).run P w=.ok (jke vs) w:=by
 have h1:=jzj (P:=P) (w:=w) (tmps:=tmps) fn.results.toList vs hl h
 rw [jqv]
 have e:fn.results.mapM (jbh tmps)=List.toArray <$> fn.results.toList.mapM (jbh tmps):=by
  conv=>lhs;rw [←Array.toArray_toList (xs:=fn.results)]
  rw [List.mapM_toArray]
 rw [e]
 simp only [Sem.run_bind,Sem.run_map,h1,Result.andThen_ok]
 match vs with
 | []=>rfl
 | [v]=>rfl
 | u :: v :: vs=>simp [jke]
theorem jmw {r:ResultVar} {x:SV} (H:Inv C R G st a w) (h:resV C st r=some x):∃v,jzg C.P a.tmps w r v∧VRel R G st.h x v:=by
 cases r with
 | tmp t =>
  simp only [resV,Option.some.injEq] at h
  subst h
  exact ⟨a.tmps.getD t undef,by simp [jzg,jbh],jpg H.here.good (H.slots t)⟩
 | cell b t =>
  simp only [resV] at h
  have hd:=jvq (o:=⟨none,.load t (.tmp b),0, "", #[],none⟩) (p:=[]) (x:=.tmp b) (t:=t) H.here (fun t _=>H.slots t) rfl h
  obtain ⟨val,h1,h2⟩:=hd
  refine ⟨val,?_,h2⟩
  have hv:=H.ev (.tmp b)
  simp only [jzg]
  simp only [execOp] at h1
  have hp:∃ad,a.tmps.getD b undef=.pointer (some ad):=by
   have hv:VRel R G st.h (gt C st [] b) (a.tmps.getD b undef):=jpg H.here.good (H.slots b)
   generalize gt C st [] b=sx at h hv
   cases sx<;>simp only [load] at h<;>first | cases h | skip
   ·exact ⟨_,hv.2⟩
   ·obtain ⟨g,o,e,_⟩:=hv;exact ⟨_,e⟩
  obtain ⟨ad,hp⟩:=hp
  have he:a.eval (.tmp b)=.pointer (some ad):=hp
  rw [he] at h1
  simp only [Sem.run_bind] at h1
  simp only [jbh,hp,asAddr,Sem.run_bind,Sem.run_pure,Result.andThen_ok]
  simp only [Instr.loadAt,Instr.sureAddr,Sem.run_bind,Sem.run_pure,Result.andThen_ok] at h1
  revert h1
  generalize (loadVar t ad).run C.P w=q
  intro h1
  cases q with
  | ok u w1=>simp at h1;rw [h1.1,h1.2]
  | halt x w1=>simp at h1
end Go.Den
