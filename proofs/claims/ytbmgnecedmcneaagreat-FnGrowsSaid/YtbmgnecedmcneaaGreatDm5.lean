/- The evaluator of Go code over plain data, and its soundness: part 5 of 9. -/
import Derived.Test.YtbmgnecedmcneaaGreatDm4
set_option linter.unusedVariables false
set_option linter.unusedSimpArgs false
/- A call that is handed memory, or makes it. -/
namespace Go.Den
open Go
variable {C:Ctx} {R:Rt} {G G0 G1:Gh} {st st1:St} {a:Act} {w w':World} {o:Oper} {v:SV}

theorem jan:∀{ns:List Nat} {ks:List (Option (Nat × Nat))} {ds:List D} {vs:List SV} {new:List (Nat × Blk)},layK ns ks ds=some (vs,new)→∀x∈vs,okSV x=true
 | [],[],[],vs,new,h,x,hx=>by simp [layK] at h;rw [h.1] at hx;simp at hx
 | n :: ns,none :: ks,d :: ds,vs,new,h,x,hx=>by
  simp only [layK] at h
  split at h
  ·rename_i a b heq
   cases h
   simp only [List.mem_cons] at hx
   rcases hx with rfl | hx
   ·rfl
   ·exact jan heq x hx
  ·cases h
 | n :: ns,some (e,sz) :: ks,.l ys :: ds,vs,new,h,x,hx=>by
  simp only [layK] at h
  split at h
  ·rename_i a b heq
   cases h
   simp only [List.mem_cons] at hx
   rcases hx with rfl | hx
   ·rfl
   ·exact jan heq x hx
  ·cases h
 | [],_ :: _,ds,vs,new,h,x,hx=>by simp [layK] at h
 | [],[],_ :: _,vs,new,h,x,hx=>by simp [layK] at h
 | _ :: _,[],ds,vs,new,h,x,hx=>by simp [layK] at h
 | _ :: _,none :: _,[],vs,new,h,x,hx=>by simp [layK] at h
 | _ :: _,some _ :: _,[],vs,new,h,x,hx=>by simp [layK] at h
 | _ :: _,some _ :: _,.b _ :: _,vs,new,h,x,hx=>by simp [layK] at h
 | _ :: _,some _ :: _,.i _ _ :: _,vs,new,h,x,hx=>by simp [layK] at h
 | _ :: _,some _ :: _,.s _ :: _,vs,new,h,x,hx=>by simp [layK] at h

theorem jyn:∀{n j:Nat} {x:SV},(jbd n)[j]? = some x→x=.undef
 | 0,j,x,h=>by simp [jbd] at h
 | n+1,0,x,h=>by simp [jbd] at h;exact h.symm
 | n+1,j+1,x,h=>jyn (n:=n) (j:=j) (by simpa [jbd] using h)
theorem jbj:∀n,(jbd n).length=n
 | 0=>rfl
 | n+1=>by simp only [jbd,List.length_cons,jbj n]
theorem jok {h:List (Nat × Blk)} {x:SV} {xs:List SV} {v:Value} {vs:List Value} (h1:VRel R G h x v) (h2:jca R G h xs vs):jca R G h (x :: xs) (v :: vs) :=
 ⟨by simp [h2.1],fun j y hj=>by
  cases j with
  | zero=>simp at hj;subst hj;exact ⟨v,rfl,h1⟩
  | succ j=>simpa using h2.2 j y (by simpa using hj)⟩
theorem jvv {h:List (Nat × Blk)} {n:Nat} {v:Value} (hv:∃us:List Value,v=.agg us.toArray∧us.length=n∧∀u∈us,u.oneCell'=true):VRel R G h (.agg (jbd n)) v:=by
 obtain ⟨us,e,hl,ho⟩:=hv
 refine ⟨us,e,by rw [hl,jbj],fun j x hj=>?_⟩
 have hx:=jyn hj
 subst hx
 have hlt:j < us.length:=by have:=(List.getElem?_eq_some_iff.1 hj).1;rw [jbj] at this;omega
 exact ⟨us[j],by simp,ho _ (by simp),trivial⟩
theorem jot {h:List (Nat × Blk)} {b:Bool}:∀{zs:List DV} {vs us:List Value},ShV zs vs→vs=us++[.bool b]→jca R G h (unZ zs b) vs∧∀x∈unZ zs b,∀ys,x≠.tup ys
 | [],[],us,_,e=>by simp at e
 | [],_ :: _,us,hs,_=>hs.elim
 | z :: zs,[],us,hs,e=>by cases z<;>exact hs.elim
 | [z],[v],us,hs,e=>by
  have:v=.bool b:=by
   cases us with
   | nil=>simpa using e
   | cons u us=>simp at e
  subst this
  have e1:unZ [z] b=[.d (.b b)]:=by cases z<;>rfl
  rw [e1]
  exact ⟨jok (.b b) ⟨rfl,fun j x hj=>by simp at hj⟩,fun x hx ys=>by simp at hx;subst hx;intro e;cases e⟩
 | [z],v :: v' :: vs,us,hs,e=>by
  cases z with
  | agg _=>exact hs.2.elim
  | one _=>exact hs.elim
  | ptr _=>exact hs.elim
 | z :: z' :: zs,v :: vs,us,hs,e=>by
  have hs':ShV (z' :: zs) vs:=by
   cases z with
   | agg _=>exact hs.2
   | one _=>exact hs
   | ptr _=>exact hs.elim
  have hne:vs≠[]:=fun h=>by subst h;cases z'<;>exact hs'.elim
  obtain ⟨us',e'⟩:∃us',vs=us'++[.bool b]:=by
   cases us with
   | nil=>simp at e;exact absurd e.2 hne
   | cons u us=>simp at e;exact ⟨us,e.2⟩
  obtain ⟨i1,i2⟩:=jot (h:=h) hs' e'
  cases z with
  | agg a =>
   have e1:unZ (.agg a :: z' :: zs) b=.agg (jbd a.length) :: unZ (z' :: zs) b:=rfl
   rw [e1]
   refine ⟨jok (jvv hs.1) i1,fun x hx ys=>?_⟩
   rcases List.mem_cons.1 hx with rfl | hx
   ·intro e;cases e
   ·exact i2 x hx ys
  | one d =>
   have e1:unZ (.one d :: z' :: zs) b=.undef :: unZ (z' :: zs) b:=rfl
   rw [e1]
   refine ⟨jok trivial i1,fun x hx ys=>?_⟩
   rcases List.mem_cons.1 hx with rfl | hx
   ·intro e;cases e
   ·exact i2 x hx ys
  | ptr _=>exact hs.elim
theorem juh {R':Rt} {s:Nat}:∀(kss:List (List (Option (Nat × Nat)))) (j:Nat) (rs:List DV) (rv:List Value) (svs:List SV) (new:List (Nat × Blk)) (st:St) (G:Gh) (Ξ:Nat→Nat→Nat→Prop) (st3:St),thaws s j kss rs=some (svs,new)→Inv C R G st a w→jxf C.P R' w kss rs rv Ξ →
  (∀i j k,Ξ i j k→k < w.heap.size∧(R.L k∨R.w0.heap.size≤k)∧∀lo hi,¬ R.LB k lo hi)→jic Ξ→(∀i j k n,Ξ i j k→G.live n→G.φ n k→False)→adds st new=some st3 →
  ∃G3,Inv C R G3 st3 a w∧(∀n,Same G st.h G3 st3.h n)∧jca R G3 st3.h svs rv∧(∀x∈svs,∀ys,x≠SV.tup ys)∧Fr G st.h G3 st3.h
 | [],j,rs,rv,svs,new,st,G,Ξ,st3,h,H,hr,hm,hap,hsep,ha=>by
  cases rs with
  | cons r rs=>simp [thaws] at h
  | nil =>
   cases rv with
   | cons v vs=>exact hr.elim
   | nil =>
    simp only [thaws,Option.some.injEq,Prod.mk.injEq] at h
    obtain ⟨rfl,rfl⟩:=h
    simp only [adds,Option.some.injEq] at ha
    subst ha
    exact ⟨G,H,Same.refl G st.h,⟨rfl,fun j x hj=>by simp at hj⟩,by simp,Fr.refl _ _⟩
 | ks :: kss,j,rs,rv,svs,new,st,G,Ξ,st3,h,H,hr,hm,hap,hsep,ha=>by
  cases rs with
  | nil=>simp [thaws] at h
  | cons r rs =>
   cases rv with
   | nil=>exact hr.elim
   | cons u rv =>
    obtain ⟨hr1,hr2⟩:=hr
    -- one value, then the others
    have go:∀{ds:List D} {us:List Value} {cells:List SV} {b b':List (Nat × Blk)} {vs:List SV},KC C.P R' w ks ds us (Ξ 0)→scAll ks ds=true→layK (nmsF s j ks.length) ks ds=some (cells,b)→thaws s (j+ks.length) kss rs=some (vs,b')→adds st (b++b')=some st3 →
      ∃G3,Inv C R G3 st3 a w∧(∀n,Same G st.h G3 st3.h n)∧jla R G3 st3.h cells us∧jca R G3 st3.h vs rv∧(∀x∈vs,∀ys,x≠SV.tup ys)∧Fr G st.h G3 st3.h:=by
     intro ds us cells b b' vs hk hsc hl ht hb
     rw [jgb] at hb
     split at hb
     ·rename_i st4 hb4
      obtain ⟨G2,i1,i2,i3,i4,i5,i6⟩:=jmd _ ks ds us (Ξ 0) cells b G st st4 hl H (hk.back hsc) (fun j k hk=>⟨(hm 0 j k hk).1,(hm 0 j k hk).2.1,(hm 0 j k hk).2.2⟩) (fun i j k h1 h2=>(hap _ _ _ _ _ h1 h2).2) (fun j k n hk hn _ hφ=>hsep 0 j k n hk hn hφ) (fun _ _=>id) hb4
      obtain ⟨G3,j1,j2,j3,j4,j5⟩:=juh kss _ rs rv vs b' st4 G2 (fun i=>Ξ (i+1)) st3 ht i1 hr2 (fun i j k hk=>hm (i+1) j k hk) (fun i j i' j' k h1 h2=>by obtain ⟨e1,e2⟩:=hap _ _ _ _ _ h1 h2;exact ⟨by omega,e2⟩) (fun i j k n hk hn hφ=>by
       rcases i5 n k hn hφ with ⟨h1,h2⟩ | ⟨j',hj'⟩
       ·exact hsep (i+1) j k n hk h1 h2
       ·have:=(hap _ _ _ _ _ hk hj').1;omega) hb
      refine ⟨G3,j1,fun n=>(i2 n).trans (j2 n),⟨i3.1,fun j x hj=>?_⟩,j3,j4,i6.trans j5⟩
      obtain ⟨q,q1,q2,q3⟩:=i3.2 j x hj
      exact ⟨q,q1,q2,jea (fun n _=>j2 n) q3⟩
     ·cases hb
    cases r with
    | ptr x=>simp [thaws] at h
    | one d =>
     obtain ⟨hk,hsc⟩:=hr1
     simp only [thaws] at h
     split at h
     ·rename_i c b vs b' hl ht
      cases h
      obtain ⟨G3,j1,j2,j3,j4,j5,j6⟩:=go hk hsc hl ht ha
      obtain ⟨q,q1,q2,q3⟩:=j3.2 0 c rfl
      simp at q1;subst q1
      refine ⟨G3,j1,j2,⟨by simp [j4.1],fun j x hj=>?_⟩,fun x hx=>?_,j6⟩
      ·cases j with
       | zero=>simp at hj;subst hj;exact ⟨u,rfl,jfc q3⟩
       | succ j=>simpa using j4.2 j x (by simpa using hj)
      ·simp only [List.mem_cons] at hx
       rcases hx with rfl | hx
       ·intro ys e;have:=jan hl x (by simp);rw [e] at this;cases this
       ·exact j5 x hx
     ·cases h
    | agg ds =>
     obtain ⟨⟨us,rfl,hk⟩,hsc⟩:=hr1
     simp only [thaws] at h
     split at h
     ·rename_i c b vs b' hl ht
      cases h
      obtain ⟨G3,j1,j2,j3,j4,j5,j6⟩:=go hk hsc hl ht ha
      refine ⟨G3,j1,j2,⟨by simp [j4.1],fun j x hj=>?_⟩,fun x hx=>?_,j6⟩
      ·cases j with
       | zero=>simp at hj;subst hj;exact ⟨_,rfl,us,rfl,j3.1,j3.2⟩
       | succ j=>simpa using j4.2 j x (by simpa using hj)
      ·simp only [List.mem_cons] at hx
       rcases hx with rfl | hx
       ·intro ys e;cases e
       ·exact j5 x hx
     ·cases h

theorem jvs {f:Nat} {args:Array Operand} {ts:Array TypeId} {s:Nat} (hC:CtxOk C) (H:Inv C R G st a w) (ho:o.op=.call { callee:=.value (.func f),args,argTypes:=ts }) (h:callFn C st s f (evs C st [] args.toList)=some (true,v,st1)):jfd C R G st a w o v st1:=by
 intro K Q hK
 have hvals:jca R G st.h (evs C st [] args.toList) (args.toList.map a.eval):=jjj H.here.good (fun t _=>H.slots t)
 generalize evs C st [] args.toList=xs at h hvals
 unfold callFn at h
 split at h
 ·exact jxr hC H ho hvals h K Q hK
 split at h
 ·rename_i r sta hgiv
  split at h
  ·rename_i ds hlent
   split at h
   ·rename_i ok rs outs hF'
    split at h
    ·rename_i stb hback
     have hok:ok=true:=by
      split at h
      ·cases h;rfl
      ·split at h
       ·split at h
        ·cases h;rfl
        ·cases h
       ·cases h
      ·split at h
       ·split at h
        ·cases h;rfl
        ·split at h
         ·split at h
          ·simp only [Option.some.injEq,Prod.mk.injEq,Bool.and_eq_true] at h
           exact h.1.1
          ·cases h
         ·cases h
       ·cases h
      ·split at h
       ·split at h
        ·cases h;rfl
        ·cases h
       ·cases h
      ·cases h
     subst hok
     have hF:opt (C.F f ds)=some (rs,outs):=by rw [hF'];rfl
     obtain ⟨hsig1,hsig2⟩:=hC.sig _ _ _ hF
     obtain ⟨G1,Θ,B,KG⟩:=jba (G0:=G) (h0:=st.h) (C.sig f).ms xs _ (fun _=>False) st G r sta H (Gle.refl G) (Has.refl _ _) (fun ks hk=>hsig1 ks (.inl hk)) hvals hgiv
     generalize hpr:pureA (C.sig f).ms xs=pr at h
     have hG1:Gle G1 G:=KG.gle
     have hP:=jbz (S2:=fun n=>n∈lentN (C.sig f).ms xs∨pr=true) (Gle.refl G) KG hvals hlent (fun n hn=>.inl (hn.resolve_left id)) (fun i m x v d θ a1 a2 a3 a4=>by
      cases pr with
      | true =>
       rcases pureA_get hpr i m x a1 a2 with ⟨rfl,hp⟩ | ⟨ks,rfl⟩ | ⟨ks,rfl⟩
       ·exact pure_arg H.W a3 hp a4 θ
       ·cases x<;>simp [argOf] at a4
       ·cases x<;>simp [argOf] at a4
      | false =>
       have e:(fun n=>n∈lentN (C.sig f).ms xs∨false=true)=fun n=>False∨n∈lentN (C.sig f).ms xs:=funext fun n=>propext (by simp)
       rw [e]
       exact jrm KG.inv KG.gle KG.has a3 a4 θ)
     have hc:=hC.spec f _ ds _ Θ rs outs hF rfl hP
     unfold Oper.wp
     rw [jae (hC.fn _ _ _ hF) ho]
     show Calls C.P f _ w _
     have harr:(args.map a.eval)=(args.toList.map a.eval).toArray:=by rw [←Array.toList_map]
     rw [harr]
     refine hc.mono fun e w' he=>?_
     obtain ⟨rv,Ξ,Ω,rfl,p⟩:=he
     obtain ⟨hW1,H1⟩:=jzx KG p.W
     have eS:(fun n=>False∨n∈lentN (C.sig f).ms xs)=fun n=>n∈lentN (C.sig f).ms xs:=funext fun n=>propext (by simp)
     rw [eS] at H1
     have hsz:w.heap.size≤w'.heap.size:=p.W.size
     have hPR:pr=true→∀d u,Rep (jyu R G1 (fun n=>n∈lentN (C.sig f).ms xs∨pr=true) w Θ B).w0 (jyu R G1 (fun n=>n∈lentN (C.sig f).ms xs∨pr=true) w Θ B).T d u→Rep R.w0 R.T d u:=fun e d u hx=>by
      have hT:∀k,(jyu R G1 (fun n=>n∈lentN (C.sig f).ms xs∨pr=true) w Θ B).T k→R.T k:=fun k hk=>by
       rcases hk with hk | ⟨n,⟨_,hn⟩,_⟩
       ·exact hk
       ·exact absurd (.inr e) hn
      exact hx.mono hT (fun k hk=>(H.W.old k (H.W.T k (hT k hk)).1 (H.W.T k (hT k hk)).2).symm)
     have mine:∀{k:Nat},((∃i j,Θ i j k)∨w.heap.size≤k)→R.L k∨R.w0.heap.size≤k:=fun h=>by
      rcases h with ⟨i,j,h⟩ | h
      ·exact (KG.mine i j _ h).2
      ·exact .inr (Nat.le_trans H.W.size h)
     have nolb:∀{k:Nat},((∃i j,Θ i j k)∨w.heap.size≤k)→(∀lo hi,¬ ∃i,B i k lo hi)→∀lo hi,¬ R.LB k lo hi:=fun h hn lo hi hlb=>by
      rcases h with ⟨i,j,h⟩ | h
      ·cases j with
       | succ j=>exact KG.lb i j _ h lo hi hlb
       | zero=>obtain ⟨lo',hi',hB,_⟩:=KG.box i _ h;exact hn lo' hi' ⟨i,hB⟩
      ·have:=jjg H.W hlb;have:=H.W.size;omega
     have sep:∀{k n:Nat},((∃i j,Θ i j k)∨w.heap.size≤k)→G1.live n→n ∉ lentN (C.sig f).ms xs→G1.φ n k→False:=fun h hn hnl hφ=>by
      rcases h with ⟨i,j,h⟩ | h
      ·exact KG.sep i j _ _ h hn (by simpa using hnl) hφ
      ·have:=(KG.inv.B.mine _ hn (by simpa using hnl) _ hφ).1;omega
     obtain ⟨G2,b1,b2,b3,b4⟩:=jyh (G0:=G) (h0:=st.h) (ns:=names sta.h) (sus:=lentN (C.sig f).ms xs) (C.sig f).ms xs _ outs sta G1 Ω stb H1 (fun n hn=>⟨KG.live n (KG.lent n hn).1 (.inr hn),by rw [KG.gle.2.1]⟩) KG.nodup (fun _ h=>h) (fun n hn hl=>by obtain ⟨b,hb⟩:=jnq hn;exact (KG.has n b hb).2)
      (jps H p.W rfl _ _ _ _ _ _ KG.givs (fun i k lo hi h=>⟨i,h⟩) hvals) hvals rfl p.outs (fun i j k h=>⟨(p.mineO i j k h).1,mine (p.mineO i j k h).2⟩) (fun i j k h=>nolb (p.mineO i (j+1) k h).2 (p.lbO i j k h)) p.apartO (fun i j k n h=>sep (p.mineO i j k h).2) hback
     have sepR:∀i j k n,Ξ i j k→G2.live n→G2.φ n k→False:=fun i j k n h hn hφ=>by
      rcases b3 n k hn hφ with ⟨h1,h2,h3⟩ | ⟨i',j',h'⟩
      ·exact sep (p.mineR i j k h).2.1 h1 h2 h3
      ·exact p.apart _ _ _ _ _ h h'
     have mineR:∀i j k,Ξ i j k→k < w'.heap.size∧(R.L k∨R.w0.heap.size≤k)∧∀lo hi,¬ R.LB k lo hi:=fun i j k h =>
      ⟨(p.mineR i j k h).1,mine (p.mineR i j k h).2.1,nolb (p.mineR i j k h).2.1 (p.mineR i j k h).2.2⟩
     have hres:=p.res
     split at h
     ·rename_i hr
      cases h
      rw [hr] at hres
      exact hK _ _ _ b1 (jec (jng R G2 _ hres) (jaf _)) (KG.fr.trans b4)
     ·rename_i hr
      split at h
      ·rename_i vs new ht
       split at h
       ·rename_i st3 ha
        cases h
        rw [hr] at hres
        obtain ⟨G3,j1,j2,j3,j4,j5⟩:=juh _ 0 _ rv vs new stb G2 Ξ st1 ht b1 hres mineR p.apartR sepR ha
        exact hK _ _ _ j1 (jec j3 j4) (KG.fr.trans (b4.trans j5))
       ·cases h
      ·cases h
     ·rename_i zs0 kss hr
      rw [hr] at hres
      obtain ⟨b0,us0,hb0,hrv,hshv,hrets⟩:=hres
      split at h
      ·rename_i b hb
       have:b0=b:=by rw [hb0] at hb;cases hb;rfl
       subst this
       split at h
       ·cases h
        obtain ⟨v1,v2⟩:=jot (R:=R) (G:=G2) (h:=st1.h) hshv hrv
        exact hK _ _ _ b1 (jec v1 v2) (KG.fr.trans b4)
       ·split at h
        ·rename_i vs new ht
         split at h
         ·rename_i st3 ha
          simp only [Option.some.injEq,Prod.mk.injEq,Bool.and_eq_true] at h
          obtain ⟨⟨_,hbt⟩,rfl,rfl⟩:=h
          obtain ⟨G3,j1,j2,j3,j4,j5⟩:=juh _ 0 _ rv vs new stb G2 Ξ _ ht b1 (hrets hbt) mineR p.apartR sepR ha
          exact hK _ _ _ j1 (jec j3 j4) (KG.fr.trans (b4.trans j5))
         ·cases h
        ·cases h
      ·cases h
     ·rename_i hr
      split at h
      ·rename_i cs new hl
       split at h
       ·rename_i st3 ha
        cases h
        rw [hr] at hres
        obtain ⟨es,g,b,cur,e,us,e1,rfl,e3,e4,e5,e6,e7,e9⟩:=hres
        cases e1
        unfold layP at hl
        split at hl
        case isFalse=>cases hl
        rename_i e8
        rw [jgb] at ha
        split at ha
        ·rename_i st4 ha4
         obtain ⟨hn,hst⟩:=jid ha
         obtain ⟨G3,i1,i2,i3,i4,i5,i6⟩:=jmd _ _ _ us (fun j=>Ξ 0 (j+1)) cs new G2 stb st4 hl b1 (e7.back2 e8 hPR) (fun j k hk=>⟨(mineR 0 (j+1) k hk).1,(mineR 0 (j+1) k hk).2.1,(mineR 0 (j+1) k hk).2.2⟩) (fun i j k h1 h2=>by have:=(p.apartR _ _ _ _ _ h1 h2).2;omega) (fun j k n hk hn _ hφ=>sepR 0 (j+1) k n hk hn hφ) (fun _ _=>id) ha4
         have hnl:¬ G3.live (nm s 0):=fun h=>by obtain ⟨b,hb,_⟩:=i1.B.rel _ h id;rw [hn] at hb;cases hb
         have hcl:=i3.1.symm.trans e7.2.1
         subst hst
         have hadd:=jeg (n:=nm s 0) (b:=(g,b)) (v:=undef) (ψ:=Ξ 0 0) (x:=.box cs) i1 hn id (fun k hk=>⟨(mineR 0 0 k hk).1,(mineR 0 0 k hk).2.1⟩) (fun k m hk hm _ hφ=>by
          rcases i5 m k hm hφ with ⟨h1,h2⟩ | ⟨j',hj'⟩
          ·exact sepR 0 0 k m hk h1 h2
          ·have:=(p.apartR _ _ _ _ _ hk hj').2;omega) ⟨cur,e,by simp [Gh.add,e3],by simp [Gh.add,e4],fun lo hi hlb=>by simp only [Gh.add,if_true] at hlb;exact ((mineR 0 0 g e4).2.2 lo hi hlb).elim,by simp [Gh.add,hcl];exact e5,fun j x hj=>by
           obtain ⟨q,q1,q2,q3⟩:=i3.2 j x hj
           exact ⟨q,by simp only [Gh.add,if_true];exact e6 j q q1,q2,jea (fun m _=>joe hnl _ _ _ _ m) q3⟩⟩
         refine hK _ _ _ hadd ⟨.inr rfl,by simp [Gh.add,jke]⟩ (KG.fr.trans (b4.trans (i6.trans (jqk hn))))
        ·cases ha
       ·cases h
      ·cases h
     ·cases h
    ·cases h
  ·cases h
 ·cases h
end Go.Den

/- One operation after the other. -/
namespace Go.Den
open Go
variable {C:Ctx} {R:Rt} {G G0 G1:Gh} {st st1 st2:St} {a:Act} {w w':World} {o:Oper} {v:SV}

/-! the slots that a region has filled so far are told by their names -/
def jza (st st1:St):Prop:=∀t,(lk st1.l t).isSome=(lk st.l t).isSome
theorem jza.refl (st:St):jza st st:=fun _=>rfl
theorem jza.trans {a b c:St} (h:jza a b) (k:jza b c):jza a c:=fun t=>(k t).trans (h t)
theorem jyd (st:St) (n:Nat) (h:List (Nat × Blk)):jza st { kill st n with h:=h }:=fun t=>by simp [kill,jcb]
theorem jfb:∀{xs:List (Nat × Blk)} {st st1:St},adds st xs=some st1→jza st st1
 | [],st,st1,h=>by simp [adds] at h;rw [h];exact .refl _
 | (n,b) :: r,st,st1,h=>by
  simp only [adds] at h
  split at h
  ·cases h
  ·have:=jfb h;exact this
theorem jcu {x:SV} {d:D} (h:take1 st x=some (d,st1)):jza st st1:=by
 unfold take1 at h
 split at h
 ·split at h
  ·cases h;exact .refl _
  ·cases h
 ·cases h;exact .refl _
 ·split at h
  ·split at h
   ·cases h
   ·cases h;exact jyd _ _ _
  ·cases h
 ·cases h
theorem jth:∀{vs:List SV} {ds:List D} {st st1:St},takes st vs=some (ds,st1)→jza st st1
 | [],ds,st,st1,h=>by simp [takes] at h;rw [h.2];exact .refl _
 | v :: vs,ds,st,st1,h=>by
  simp only [takes] at h
  split at h
  ·rename_i h1
   split at h
   ·rename_i h2;cases h;exact (jcu h1).trans (jth h2)
   ·cases h
  ·cases h
theorem jmc:∀{ks:List (Option (Nat × Nat))} {vs:List SV} {ds:List D} {st st1:St},takeK st ks vs=some (ds,st1)→jza st st1
 | [],vs,ds,st,st1,h=>by cases vs<;>simp [takeK] at h;rw [h.2];exact .refl _
 | none :: ks,vs,ds,st,st1,h=>by
  cases vs with
  | nil=>simp [takeK] at h
  | cons v vs =>
   cases v<;>simp only [takeK] at h
   case d x =>
    split at h
    ·rename_i h2;cases h;exact jmc h2
    ·cases h
   case bx m i x =>
    split at h
    ·rename_i h2;cases h;exact jmc h2
    ·cases h
   all_goals cases h
 | some (e,sz) :: ks,vs,ds,st,st1,h=>by
  cases vs with
  | nil=>simp [takeK] at h
  | cons v vs =>
   simp only [takeK] at h
   split at h
   ·split at h
    ·rename_i h2;cases h;exact jmc h2
    ·cases h
   ·split at h
    ·split at h
     ·split at h
      ·rename_i h2;cases h;exact (jyd _ _ _).trans (jmc h2)
      ·cases h
     ·cases h
    ·cases h
   ·cases h
theorem jcd:∀{ms:List Mode} {xs:List SV} {r:List (Option DV)} {st st1:St},given st ms xs=some (r,st1)→jza st st1
 | [],xs,r,st,st1,h=>by cases xs<;>simp [given] at h;rw [h.2];exact .refl _
 | m :: ms,[],r,st,st1,h=>by cases m<;>simp [given] at h
 | m :: ms,x :: xs,r,st,st1,h=>by
  unfold given at h
  split at h
  ·rename_i heq;cases heq
  ·rename_i heq1 heq2
   cases heq1;cases heq2
   split at h
   ·rename_i h1
    split at h
    ·rename_i h2
     split at h
     ·cases h;exact (jmc h1).trans (jcd h2)
     ·cases h;exact (jmc h1).trans (jcd h2)
     ·cases h
    ·cases h
   ·cases h
  ·rename_i heq1 heq2
   cases heq1;cases heq2
   split at h
   ·split at h
    ·split at h
     ·rename_i h1
      split at h
      ·rename_i h2
       cases h
       have a1:=jmc h1
       exact fun t=>((jcd h2) t).trans (a1 t)
      ·cases h
     ·cases h
    ·cases h
   ·cases h
  ·rename_i heq1 heq2
   cases heq1;cases heq2
   split at h
   ·rename_i h2;cases h;exact jcd h2
   ·cases h
  ·cases h
theorem jzh {h0:List (Nat × Blk)} {ns sus:List Nat}:∀{ms:List Mode} {xs:List SV} {os:List (List D)} {st st1:St},backs h0 ns sus st ms xs os=some st1→jza st st1
 | [],xs,os,st,st1,h=>by cases xs<;>cases os<;>simp [backs] at h;rw [h];exact .refl _
 | m :: ms,[],os,st,st1,h=>by cases m<;>cases os<;>simp [backs] at h
 | m :: ms,x :: xs,os,st,st1,h=>by
  by_cases hp:∃ks,m=.ptr ks
  ·obtain ⟨ks,rfl⟩:=hp
   by_cases hx:∃n off,x=.ptr n off
   ·obtain ⟨n,off,rfl⟩:=hx
    cases os with
    | nil=>simp [backs] at h
    | cons o os =>
     simp only [backs] at h
     split at h
     ·split at h
      ·split at h
       ·split at h
        ·split at h
         ·rename_i ha;exact (jfb ha).trans (jzh h)
         ·cases h
        ·cases h
       ·cases h
      ·cases h
     ·cases h
   ·cases x<;>first | exact absurd ⟨_,_,rfl⟩ hx | (simp [backs] at h)
  ·by_cases hio:∃ks,m=.io ks
   ·obtain ⟨ks,rfl⟩:=hio;simp [backs] at h
   ·have eq:backs h0 ns sus st (m :: ms) (x :: xs) os=backs h0 ns sus st ms xs os:=by
     cases m with
     | ptr ks=>exact absurd ⟨ks,rfl⟩ hp
     | io ks=>exact absurd ⟨ks,rfl⟩ hio
     | _=>cases os<;>rfl
    rw [eq] at h
    exact jzh h
theorem jel {zs:List D} {x:SV} {ok:Bool} {ys:List (List D)} (h:source zs st x=some (ok,ys,st1)):jza st st1:=by
 unfold source at h
 split at h
 ·split at h
  ·split at h
   ·split at h
    ·cases h;exact .refl _
    ·cases h;exact jyd _ _ _
   ·cases h
  ·cases h
 ·split at h
  ·cases h;exact .refl _
  ·cases h
 ·cases h;exact .refl _
 ·cases h
theorem jkl {sz:Nat}:∀{parts:List (Nat × Operand)} {k:Nat} {rows:List (List D)} {st st1:St},rowsOf C sz parts k st=some (rows,st1)→jza st st1
 | [],k,rows,st,st1,h=>by simp [rowsOf] at h;rw [h.2];exact .refl _
 | (i,x) :: r,k,rows,st,st1,h=>by
  simp only [rowsOf] at h
  split at h
  ·split at h
   ·rename_i h1
    split at h
    ·split at h
     ·rename_i h2;cases h;exact (jth h1).trans (jkl h2)
     ·cases h
    ·cases h
   ·cases h
  ·cases h
theorem jdu {t:TypeId} {p x:SV} {b:Bool} (h:store C st t p x=some (b,st1)):jza st st1:=by
 unfold store at h
 split at h
 ·split at h
  ·split at h
   ·split at h
    ·cases h;exact fun _=>rfl
    ·cases h
   ·cases h
  ·split at h
   ·rename_i h1
    split at h
    ·cases h;exact fun t=>(jth h1) t
    ·cases h
   ·cases h
  ·cases h
 ·cases h
theorem jgl {el n:Nat} {ok:List (List D)→Bool} {f:List (List D)→List (List D)} {b:Bool} (h:cut C st el n ok f=some (b,v,st1)):jza st st1:=by
 unfold cut at h
 split at h
 ·split at h
  ·cases h;exact jyd _ _ _
  ·cases h
 ·cases h
theorem jbs {s f:Nat} {b:Bool} {xs:List SV} (h:callFn C st s f xs=some (b,v,st1)):jza st st1:=by
 unfold callFn at h
 split at h
 ·obtain ⟨h2,_,rfl,_⟩:=jsj h;exact fun _=>rfl
 split at h
 ·rename_i h1
  split at h
  ·split at h
   ·split at h
    ·rename_i h2
     have k:=(jcd h1).trans (jzh h2)
     split at h
     ·cases h;exact k
     ·split at h
      ·split at h
       ·rename_i h3;cases h;exact k.trans (jfb h3)
       ·cases h
      ·cases h
     ·split at h
      ·split at h
       ·cases h;exact k
       ·split at h
        ·split at h
         ·rename_i h3;cases h;exact k.trans (jfb h3)
         ·cases h
        ·cases h
      ·cases h
     ·split at h
      ·split at h
       ·rename_i h3;cases h;exact k.trans (jfb h3)
       ·cases h
      ·cases h
     ·cases h
    ·cases h
  ·cases h
 ·cases h
theorem jad {s:Nat} {op:Op} {b:Bool} (h:heavy C st s op=some (b,v,st1)):jza st st1:=by
 have adds':∀{st st1:St} {xs:List (Nat × Blk)} {α:Type} {f:St→α} {g:α},(adds st xs).map f=some g→∃st2,adds st xs=some st2∧f st2=g:=fun h=>by
  rw [Option.map_eq_some_iff] at h;exact h
 unfold heavy at h
 split at h
 ·split at h
  ·obtain ⟨st2,h1,h2⟩:=adds' (st1:=st) h;cases h2;exact jfb h1
  ·cases h
 ·split at h
  ·obtain ⟨st2,h1,h2⟩:=adds' (st1:=st) h;cases h2;exact jfb h1
  ·cases h
 ·split at h
  ·split at h
   ·split at h
    ·rename_i hr
     split at h
     ·obtain ⟨st2,h1,h2⟩:=adds' (st1:=st) h;cases h2;exact (jkl hr).trans (jfb h1)
     ·cases h
    ·cases h
   ·cases h
  ·cases h
 ·split at h
  ·split at h
   ·split at h
    ·obtain ⟨st2,h1,h2⟩:=adds' (st1:=st) h;cases h2;exact jfb h1
    ·cases h
   ·cases h
  ·cases h
 ·rw [Option.map_eq_some_iff] at h
  obtain ⟨⟨b2,st2⟩,h1,h2⟩:=h
  cases h2
  exact jdu h1
 ·split at h
  ·exact jgl h
  ·exact jgl h
  ·exact jgl h
  ·cases h
 ·split at h
  ·split at h
   ·split at h
    ·split at h
     ·split at h
      ·split at h
       ·rename_i hs
        split at h
        ·split at h
         ·split at h
          ·cases h;exact (jel hs).trans (jyd _ _ _)
          ·cases h
         ·cases h
        ·obtain ⟨st2,h1,h2⟩:=adds' (st1:=st) h;cases h2;exact (jel hs).trans (jfb h1)
        ·cases h
       ·cases h
      ·cases h
     ·cases h
    ·cases h
   ·cases h
  ·exact jbs h
  ·cases h
 ·cases h

theorem jlc {s:Nat} (hC:CtxOk C) (H:Inv C R G st a w) (h:heavy C st s o.op=some (true,v,st1)):jfd C R G st a w o v st1:=by
 generalize hop:o.op=op at h
 cases op
 case alloc t =>
  simp only [heavy] at h
  split at h
  ·rename_i zs hz
   rw [Option.map_eq_some_iff] at h
   obtain ⟨st2,h1,h2⟩:=h
   cases h2
   exact jut H hop hz h1
  ·cases h
 case box t x =>
  simp only [heavy] at h
  split at h
  ·rename_i hf
   rw [Option.map_eq_some_iff] at h
   obtain ⟨st2,h1,h2⟩:=h
   cases h2
   exact jxx H hop (jhu hf).1 h1
  ·cases h
 case buildSlice t n parts =>
  simp only [heavy] at h
  split at h
  ·rename_i el ht
   split at h
   ·rename_i zs hz
    split at h
    ·rename_i rows st2 hr
     split at h
     ·rename_i hn
      rw [Option.map_eq_some_iff] at h
      obtain ⟨st3,h1,h2⟩:=h
      cases h2
      exact jxm H hop ht hz hr hn.1 hn.2 h1
     ·cases h
    ·cases h
   ·cases h
  ·cases h
 case makeSlice t x y =>
  simp only [heavy] at h
  split at h
  ·rename_i el kx k ky k' ht hx hy
   split at h
   ·rename_i hsm
    split at h
    ·rename_i zs hz
     rw [Option.map_eq_some_iff] at h
     obtain ⟨st2,h1,h2⟩:=h
     simp only [Prod.mk.injEq,decide_eq_true_eq] at h2
     obtain ⟨⟨h3,h4,rfl⟩,rfl,rfl⟩:=h2
     exact jpw H hop ht hx hy hsm hz h3 h4 h1
    ·cases h
   ·cases h
  ·cases h
 case store t p x =>
  simp only [heavy] at h
  rw [Option.map_eq_some_iff] at h
  obtain ⟨⟨b2,st2⟩,h1,h2⟩:=h
  cases h2
  exact jzt H hop h1
 case slice t x lo hi mx=>exact jvt (s:=s) H hop (by rw [hop];exact h)
 case call c =>
  obtain ⟨callee,args,ts⟩:=c
  cases callee with
  | builtin b =>
   by_cases hb:b=.append
   ·subst hb
    exact jis (s:=s) H hop (by rw [hop];exact h)
   ·cases b<;>first | exact absurd rfl hb | (simp [heavy] at h)
  | value f =>
   cases f with
   | func f =>
    simp only [heavy] at h
    exact jvs hC H hop h
   | _=>simp [heavy] at h
  | invoke r m=>simp [heavy] at h
 all_goals (simp [heavy] at h)
end Go.Den

/- Regions. -/
namespace Go.Den
open Go
variable {C:Ctx} {R:Rt} {G G0 G1:Gh} {st st1 st2:St} {a:Act} {w w':World} {o:Oper} {v:SV}

theorem jug:∀{ks:List Nat} {m:List SV} {t:Nat},isIn ks t=false→lkm ks m t=.undef
 | [],m,t,_=>by cases m<;>rfl
 | k :: ks,[],t,_=>rfl
 | k :: ks,v :: vs,t,h=>by
  simp only [isIn] at h
  split at h
  ·cases h
  ·rename_i hk;simp only [lkm,if_neg hk];exact jug h
theorem jac:∀{ks:List Nat} {m:List SV} {t:Nat} {x:SV},isIn ks t=true→m.length=ks.length→∀u,lkm ks (stm ks m t x) u=if u=t then x else lkm ks m u
 | [],m,t,x,h,_,u=>by simp [isIn] at h
 | k :: ks,[],t,x,h,hl,u=>by simp at hl
 | k :: ks,v :: vs,t,x,h,hl,u=>by
  simp only [isIn] at h
  simp only [stm]
  split
  ·rename_i hk
   subst hk
   simp only [lkm]
   by_cases hu:k=u
   ·simp [hu]
   ·simp [hu,Ne.symm hu]
  ·rename_i hk
   rw [if_neg hk] at h
   simp only [lkm]
   rw [jac h (by simpa using hl) u]
   by_cases hu:k=u
   ·subst hu;simp [hk]
   ·simp [hu]
theorem jvl:∀(ks:List Nat) (m:List SV) (t:Nat) (x:SV),(stm ks m t x).length=m.length
 | [],m,t,x=>by cases m<;>rfl
 | k :: ks,[],t,x=>rfl
 | k :: ks,v :: vs,t,x=>by simp only [stm];split<;>simp [jvl ks vs]
theorem jxg {a:Act} {t u:Nat} {val:Value} (ht:t < a.tmps.size):(a.put (some t) val).tmps.getD u undef=if u=t then val else a.tmps.getD u undef:=by
 simp only [Act.put,Array.getD_eq_getD_getElem?,Array.getElem?_setIfInBounds]
 by_cases h:t=u
 ·subst h;simp [ht]
 ·simp [h,Ne.symm h]

theorem jlb {p:Path} {c:Bool} {dst:Option Nat} {val:Value} (H:Inv C R G st a w) (hv:if c then VRel R G st.h v val else val=undef) (hp:jtb st.l p c) (hc:p=[]→c=true) (hl:∀t,dst=some t→lk st.l t=none∧t < a.tmps.size):Inv C R G (pt C st p c dst v) (a.put dst val) w:=by
 cases dst with
 | none=>exact H
 | some t =>
  obtain ⟨hlk,ht⟩:=hl t rfl
  unfold pt
  dsimp only
  by_cases hk:isIn C.keep t=true
  ·rw [if_pos hk]
   have key:∀x:SV,VRel R G st.h x val→Inv C R G { st with m:=stm C.keep st.m t x } (a.put (some t) val) w:=fun x hx =>
    ⟨H.W,H.B,H.all,fun u=>by
     have hu:=H.slots u
     unfold jma at hu ⊢
     rw [jxg ht]
     dsimp only
     by_cases hut:u=t
     ·subst hut
      rw [hlk]
      simp only [if_true]
      rw [jac hk H.m u,if_pos rfl]
      exact hx
     ·rw [if_neg hut]
      cases hlu:lk st.l u with
      | none =>
       rw [hlu] at hu
       dsimp only at hu ⊢
       rw [jac hk H.m u,if_neg hut]
       exact hu
      | some e=>rw [hlu] at hu;exact hu,H.l,by simp only [jvl];exact H.m⟩
   split
   ·have hc':=hc rfl
    subst hc'
    exact key v hv
   ·exact key .undef trivial
  ·rw [if_neg hk]
   refine ⟨H.W,H.B,H.all,fun u=>?_,fun u q c' v' h=>?_,H.m⟩
   ·have hu:=H.slots u
    unfold jma at hu ⊢
    rw [jxg ht]
    simp only [lk]
    by_cases hut:u=t
    ·subst hut
     simp only [if_true]
     exact hv
    ·rw [if_neg (Ne.symm hut),if_neg hut]
     exact hu
   ·have lift:∀{q:Path} {c':Bool},jtb st.l q c'→jtb ((t,p,c,v) :: st.l) q c':=fun h=>by
     rcases h with h | ⟨q',t',b,c'',x,h1,h2,h3⟩
     ·exact .inl h
     ·refine .inr ⟨q',t',b,c'',x,h1,?_,h3⟩
      simp only [lk]
      rw [if_neg (fun e=>by subst e;rw [hlk] at h2;cases h2)]
      exact h2
    simp only [lk] at h
    split at h
    ·cases h;exact lift hp
    ·exact lift (H.l u q c' v' h)
theorem pt_l {p:Path} {c:Bool} {dst:Option Nat} {seen:List Nat} (hl:∀t,(lk st.l t).isSome=true→t∈seen∧isIn C.keep t=false) :
  ∀t,(lk (pt C st p c dst v).l t).isSome=true→t∈(match dst with | some d=>d :: seen | none=>seen)∧isIn C.keep t=false:=by
 intro t h
 unfold pt at h
 cases dst with
 | none=>exact hl t h
 | some d =>
  dsimp only at h ⊢
  split at h
  ·have:(lk st.l t).isSome=true:=by
    split at h<;>exact h
   exact ⟨List.mem_cons_of_mem _ (hl t this).1,(hl t this).2⟩
  ·rename_i hk
   simp only [lk] at h
   split at h
   ·rename_i e;subst e;exact ⟨by simp,by simpa using hk⟩
   ·exact ⟨List.mem_cons_of_mem _ (hl t h).1,(hl t h).2⟩

theorem jat {p:Path} {c ok:Bool} (h:okP p c ok=true) (hc:c=true):ok=true:=by
 subst hc
 cases p<;>simp_all [okP]
theorem jdh {ops:Array Oper} {p:Path} {c:Bool} (H:Inv C R G st a w) (h:guardOf ops st o.guard=some (p,c)):jtb st.l p c∧(p=[]→c=true)∧Region.wanted o (yielded ops a.tmps)=c:=by
 unfold guardOf at h
 cases hg:o.guard with
 | none =>
  rw [hg] at h
  cases h
  exact ⟨.inl ⟨rfl,rfl⟩,fun _=>rfl,by simp [Region.wanted,hg]⟩
 | some jb =>
  obtain ⟨j,b⟩:=jb
  rw [hg] at h
  dsimp only at h
  split at h
  ·rename_i oj hoj
   split at h
   ·rename_i t ht
    split at h
    ·rename_i q c' x hlk
     cases h
     have hgd:gd b x=(x==b):=by cases b<;>cases x<;>rfl
     rw [hgd]
     refine ⟨.inr ⟨q,t,b,c',x,rfl,hlk,rfl⟩,fun e=>by simp at e,?_⟩
     have hs:=H.slots t
     unfold jma at hs
     rw [hlk] at hs
     dsimp only at hs
     simp only [Region.wanted,hg,yielded,hoj,Option.bind_some,ht]
     cases c' with
     | true =>
      have hv:a.tmps.getD t undef=.bool x:=jkc (R:=R) (G:=G) (h:=st.h) hs
      have hget:a.tmps[t]? = some (.bool x):=by
       cases he:a.tmps[t]? with
       | none=>rw [Array.getD_eq_getD_getElem?,he] at hv;cases hv
       | some u=>rw [Array.getD_eq_getD_getElem?,he] at hv;simp at hv;rw [hv]
      rw [hget]
      cases x<;>cases b<;>rfl
     | false =>
      have hv:a.tmps.getD t undef=undef:=hs
      have hget:a.tmps[t]? = none∨a.tmps[t]? = some undef:=by
       cases he:a.tmps[t]? with
       | none=>exact .inl rfl
       | some u=>rw [Array.getD_eq_getD_getElem?,he] at hv;simp at hv;rw [hv];exact .inr rfl
      rcases hget with e | e<;>rw [e]<;>rfl
    ·cases h
   ·cases h
  ·cases h

def jbb (n:Nat):List Nat→List Oper→Bool
 | _,[]=>true
 | seen,o :: os=>match o.dst with
  | none=>jbb n seen os
  | some t=>decide (t < n)&&!isIn seen t&&jbb n (t :: seen) os
theorem jdg {n:Nat} {seen:List Nat} {os:List Oper} (h:jbb n seen (o :: os)=true):(∀t,o.dst=some t→t < n∧t ∉ seen)∧jbb n (match o.dst with | some d=>d :: seen | none=>seen) os=true:=by
 simp only [jbb] at h
 cases hd:o.dst with
 | none=>rw [hd] at h;exact ⟨fun t ht=>(by cases ht),h⟩
 | some t =>
  rw [hd] at h
  simp only [Bool.and_eq_true,decide_eq_true_eq,Bool.not_eq_true'] at h
  refine ⟨fun t' ht=>?_,h.2⟩
  cases ht
  exact ⟨h.1.1,fun hm=>by rw [jpc.2 hm] at h;simp at h⟩
theorem jta (a:Act) (dst:Option Nat) (val:Value):(a.put dst val).tmps.size=a.tmps.size∧(a.put dst val).defers=a.defers:=by
 cases dst<;>simp [Act.put]
def jub (p:List Nat) (os:List Oper):Bool:=os.all fun o=>match o.dst with | some t=>!isIn p t | none=>true
theorem jjd {p:List Nat} {os:List Oper} (h:jub p os=true):∀o∈os,∀t,o.dst=some t→t ∉ p:=fun o ho t ht=>by
 have:=List.all_eq_true.1 h o ho
 rw [ht] at this
 simp only [Bool.not_eq_true'] at this
 exact fun hm=>by rw [jpc.2 hm] at this;cases this
def jsa (p:List Nat) (a a':Act):Prop:=a'.defers=a.defers∧∀i,i∈p→a'.tmps[i]? = a.tmps[i]?
theorem jsa.refl (p:List Nat) (a:Act):jsa p a a:=⟨rfl,fun _ _=>rfl⟩
theorem jsa.trans {p:List Nat} {a b c:Act} (A:jsa p a b) (B:jsa p b c):jsa p a c:=⟨B.1.trans A.1,fun i hi=>(B.2 i hi).trans (A.2 i hi)⟩
theorem jqd {p:List Nat} {a:Act} {dst:Option Nat} {val:Value} (h:∀t,dst=some t→t ∉ p):jsa p a (a.put dst val):=by
 cases dst with
 | none=>exact jsa.refl p a
 | some t =>
  have:=h t rfl
  refine ⟨by simp [Act.put],fun i hi=>?_⟩
  have hne:t≠i:=fun e=>this (e ▸ hi)
  simp [Act.put,Array.getElem?_setIfInBounds,hne]
theorem jgq (H:Inv C R G st a w) (hl:∀t,(lk st.l t).isSome=true→isIn C.keep t=false):Inv C R G { st with l:=[] } a w where
 W:=H.W
 B:=H.B
 all:=H.all
 slots:=fun t=>by
  have hs:=H.slots t
  unfold jma at hs ⊢
  dsimp only [lk]
  cases hlk:lk st.l t with
  | none=>rw [hlk] at hs;exact hs
  | some e=>rw [jug (hl t (by rw [hlk];rfl))];trivial
 l:=fun t q c v h=>by cases h
 m:=H.m

theorem jnk:∀{p q:Path},pre q p=true→strip p q=[]
 | p,[],_=>by cases p<;>simp [strip]
 | [],(b,y) :: q,h=>by simp [pre] at h
 | (a,x) :: p,(b,y) :: q,h=>by
  simp only [pre] at h
  split at h
  ·rename_i e;subst e
   split at h
   ·rename_i e;subst e
    simp only [strip,if_true]
    exact jnk h
   ·cases h
  ·cases h
theorem jrj:∀{p q:Path},strip p q=[]→pre q p=true
 | p,[],_=>by simp [pre]
 | [],(b,y) :: q,h=>by simp [strip] at h
 | (a,x) :: p,(b,y) :: q,h=>by
  simp only [strip] at h
  split at h
  ·rename_i e;subst e
   split at h
   ·rename_i e;subst e
    simp only [pre,if_true]
    exact jrj h
   ·cases h
  ·cases h
theorem jsn:∀{p q:Path} {e:Nat × Bool},pre q p=false→strip p (q++[e])=strip p q++[e]
 | p,[],e,h=>by simp [pre] at h
 | [],(b,y) :: q,e,h=>by simp [strip]
 | (a,x) :: p,(b,y) :: q,e,h=>by
  simp only [pre] at h
  simp only [List.cons_append,strip]
  split
  ·rename_i e1;subst e1
   split
   ·rename_i e2;subst e2
    simp only [if_true] at h
    exact jsn h
   ·rfl
  ·rfl
theorem jeo:∀{p q:Path} {e:Nat × Bool},pre q p=true→pre (q++[e]) p=false→strip p (q++[e])=[e]
 | [],[],e,_,_=>by simp [strip]
 | (a,x) :: p,[],(b,y),_,h=>by
  simp only [List.nil_append,strip]
  split
  ·rename_i e1;subst e1
   split
   ·rename_i e2;subst e2
    simp [pre] at h
   ·rfl
  ·rfl
 | [],(b,y) :: q,e,h,_=>by simp [pre] at h
 | (a,x) :: p,(b,y) :: q,e,h,h'=>by
  simp only [pre] at h
  split at h
  ·rename_i e1;subst e1
   split at h
   ·rename_i e2;subst e2
    simp only [List.cons_append,pre,if_true] at h'
    simp only [List.cons_append,strip,if_true]
    exact jeo h h'
   ·cases h
  ·cases h
theorem jle (p:Path):∀(l:List (Nat × Path × Bool × SV)) (t:Nat),lk (atL p l) t=(lk l t).map fun e=>(strip p e.1,(match strip p e.1 with | []=>true | _=>e.2.1),e.2.2)
 | [],t=>rfl
 | (u,q,c,v) :: r,t=>by
  simp only [atL,lk,jle p r t]
  split<;>rfl
theorem jip {p:Path} (H:Inv C R G st a w) (hp:jtb st.l p true):Inv C R G (atP p st) a w:=by
 have hgood:=good_of H.l hp
 refine ⟨H.W,H.B,H.all,fun t=>?_,fun t q c v h=>?_,H.m⟩
 ·have hs:=H.slots t
  unfold jma at hs ⊢
  show match lk (atL p st.l) t with | some (_,c,v)=>if c then VRel R G st.h v (a.tmps.getD t undef) else a.tmps.getD t undef=undef | none=>VRel R G st.h (lkm C.keep st.m t) (a.tmps.getD t undef)
  rw [jle]
  cases hlk:lk st.l t with
  | none=>rw [hlk] at hs;exact hs
  | some e =>
   obtain ⟨q,c,v⟩:=e
   rw [hlk] at hs
   dsimp only [Option.map] at hs ⊢
   cases hr:strip p q with
   | nil =>
    have:=hgood t q c v hlk (jrj hr)
    subst this
    exact hs
   | cons x r=>exact hs
 ·show jtb (atL p st.l) q c
  have h':lk (atL p st.l) t=some (q,c,v):=h
  rw [jle,Option.map_eq_some_iff] at h'
  obtain ⟨⟨q1,c1,v1⟩,h1,h2⟩:=h'
  simp only [Prod.mk.injEq] at h2
  obtain ⟨rfl,rfl,rfl⟩:=h2
  cases hr:strip p q1 with
  | nil=>exact .inl ⟨rfl,rfl⟩
  | cons x0 r0 =>
   dsimp only
   have hnp:pre q1 p=false:=by
    cases hpp:pre q1 p with
    | false=>rfl
    | true=>rw [jnk hpp] at hr;cases hr
   rcases H.l t q1 c1 _ h1 with ⟨rfl,_⟩ | ⟨q0,t0,b0,c0,y0,rfl,h3,h4⟩
   ·simp [pre] at hnp
   ·refine .inr ⟨strip p q0,t0,b0,(match strip p q0 with | []=>true | _=>c0),y0,?_,by rw [jle,h3];rfl,?_⟩
    ·rw [←hr]
     cases hq:pre q0 p with
     | true=>rw [jeo hq hnp,jnk hq];rfl
     | false=>exact jsn hq
    ·rw [h4]
     cases hq:strip p q0 with
     | nil =>
      have:=hgood t0 q0 c0 _ h3 (jrj hq)
      subst this
      rfl
     | cons=>rfl
theorem jup (p:Path) (st:St):jza st (atP p st):=fun t=>by
 show (lk (atL p st.l) t).isSome=_
 rw [jle]
 cases lk st.l t<;>rfl
theorem jbe (hC:CtxOk C) {ops:Array Oper} {p0:List Nat} {Q:Exit→Act→World→Prop}:∀(os:List Oper) (k:Nat) (seen:List Nat) (st:St) (G:Gh) (a:Act) (w:World),ops.toList.drop k=os→Inv C R G st a w→(∀t,(lk st.l t).isSome=true→t∈seen∧isIn C.keep t=false)→jbb a.tmps.size seen os=true→jub p0 os=true→runOps C ops os st=some st2 →
  (∀a' w' G',Inv C R G' st2 a' w'→st2.l=[]→a'.tmps.size=a.tmps.size→jsa p0 a a'→Q .normal a' w')→wpOps C.P ops Q (List.range' k os.length) a w
 | [],k,seen,st,G,a,w,hd,H,hl,hchk,hlo,h,hQ=>by
  simp only [runOps,Option.some.injEq] at h
  subst h
  exact hQ a w G (jgq H fun t ht=>(hl t ht).2) rfl rfl (jsa.refl _ _)
 | o :: os,k,seen,st,G,a,w,hd,H,hl,hchk,hlo,h,hQ=>by
  have hst:∀val,jsa p0 a (a.put o.dst val):=fun val=>jqd (jjd hlo o (by simp))
  have hlo':jub p0 os=true:=by simp only [jub,List.all_cons,Bool.and_eq_true] at hlo ⊢;exact hlo.2
  have hk:ops[k]? = some o:=by
   have:ops.toList[k]? = some o:=by
    have:=congrArg (·[0]?) hd
    simpa using this
   simpa using this
  have hd':ops.toList.drop (k+1)=os:=by
   rw [←List.drop_drop,hd];rfl
  obtain ⟨hdst,hchk'⟩:=jdg hchk
  have hfree:∀{l:List (Nat × Path × Bool × SV)},(∀t,(lk l t).isSome=(lk st.l t).isSome)→∀t,o.dst=some t→lk l t=none∧t < a.tmps.size:=fun hll t ht=>by
   obtain ⟨h1,h2⟩:=hdst t ht
   refine ⟨?_,h1⟩
   cases he:lk _ t with
   | none=>rfl
   | some e =>
    have h3:=hll t
    rw [he] at h3
    exact absurd (hl t h3.symm).1 h2
  -- behind the operation
  have next:∀{st':St} {p:Path} {c:Bool} {v:SV} {G':Gh} {val:Value} {w':World},Inv C R G' st' a w'→jza st st'→(if c then VRel R G' st'.h v val else val=undef)→jtb st'.l p c→(p=[]→c=true)→runOps C ops os (pt C st' p c o.dst v)=some st2→wpOps C.P ops Q (List.range' (k+1) os.length) (a.put o.dst val) w':=by
   intro st' p c v G' val w' H' hL hv hp hc hrun
   obtain ⟨z1,z2⟩:=jta a o.dst val
   refine jbe hC os (k+1) _ _ _ _ _ hd' (jlb H' hv hp hc (hfree hL)) (pt_l (fun t ht=>hl t (by rw [←hL t];exact ht))) (by rw [z1];exact hchk') hlo' hrun (fun a' w' G' h1 h2 h3 h4=>hQ a' w' G' h1 h2 (h3.trans z1) ((hst val).trans h4))
  simp only [List.length_cons,List.range'_succ,wpOps,hk]
  simp only [runOps] at h
  split at h
  ·rename_i p c hg
   obtain ⟨hp,hc,hw⟩:=jdh H hg
   rw [hw]
   split at h
   ·rename_i ok v hlight
    split at h
    ·rename_i hok
     cases c with
     | false =>
      simp only [Bool.false_eq_true,if_false]
      exact next (c:=false) (v:=v) H (.refl _) rfl hp hc h
     | true =>
      simp only [if_true]
      have hok:=jat hok rfl
      subst hok
      refine .inl (jte hC ⟨H.W,H.bare,H.l,hp⟩ (fun t _=>H.slots t) hlight (fun val w' hext hv=>?_))
      exact next (c:=true) (v:=v) (jtc H hext) (.refl _) hv hp hc h
    ·cases h
   ·split at h
    ·split at h
     ·rename_i ok v st1 hheavy
      split at h
      ·rename_i hok
       subst hok
       have hc':=hc rfl
       subst hc'
       simp only [if_true]
       refine .inl (jlc hC H hheavy _ _ (fun val w' G' h1 h2 _=>?_))
       exact next (c:=true) (v:=v) h1 (jad hheavy) h2 (.inl ⟨rfl,rfl⟩) (fun _=>rfl) h
      ·cases h
     ·cases h
    ·rename_i q p'
     split at h
     ·rename_i hcc
      subst hcc
      split at h
      ·rename_i ok v st1 hheavy
       split at h
       ·rename_i hok
        subst hok
        simp only [if_true]
        refine .inl (jlc hC (jip H hp) hheavy _ _ (fun val w' G' h1 h2 _=>?_))
        exact next (c:=true) (v:=v) h1 ((jup _ st).trans (jad hheavy)) h2 (.inl ⟨rfl,rfl⟩) (fun _=>rfl) h
       ·cases h
      ·cases h
     ·rename_i hcc
      have:c=false:=by simpa using hcc
      subst this
      simp only [Bool.false_eq_true,if_false]
      exact next (c:=false) (v:=.undef) H (.refl _) rfl hp hc h
  ·cases h
end Go.Den

/- Regions, a piece after the other; a slice within an own row is written to where it stands. -/
namespace Go.Den
open Go
variable {C:Ctx} {R:Rt} {G G0 G1:Gh} {st st1 st2:St} {a:Act} {w w':World} {o:Oper} {v:SV}

theorem juk (hC:CtxOk C) {ops:Array Oper} {p0:List Nat} {Q:Exit→Act→World→Prop} {rest:List Oper}:∀(os:List Oper) (k:Nat) (seen:List Nat) (st:St) (G:Gh) (a:Act) (w:World),ops.toList.drop k=os++rest→Inv C R G st a w→(∀t,(lk st.l t).isSome=true→t∈seen∧isIn C.keep t=false)→jbb a.tmps.size seen (os++rest)=true→jub p0 (os++rest)=true→jqb C ops os st=some st2 →
  (∀a' w' G' seen',Inv C R G' st2 a' w'→(∀t,(lk st2.l t).isSome=true→t∈seen'∧isIn C.keep t=false)→jbb a'.tmps.size seen' rest=true→a'.tmps.size=a.tmps.size→jsa p0 a a'→wpOps C.P ops Q (List.range' (k+os.length) rest.length) a' w')→wpOps C.P ops Q (List.range' k (os.length+rest.length)) a w
 | [],k,seen,st,G,a,w,hd,H,hl,hchk,hlo,h,hQ=>by
  simp only [jqb,Option.some.injEq] at h
  subst h
  have:=hQ a w G seen H hl hchk rfl (jsa.refl _ _)
  simpa using this
 | o :: os,k,seen,st,G,a,w,hd,H,hl,hchk,hlo,h,hQ=>by
  have hst:∀val,jsa p0 a (a.put o.dst val):=fun val=>jqd (jjd hlo o (by simp))
  have hlo':jub p0 (os++rest)=true:=by simp only [jub,List.cons_append,List.all_cons,Bool.and_eq_true] at hlo ⊢;exact hlo.2
  have hk:ops[k]? = some o:=by
   have:ops.toList[k]? = some o:=by
    have:=congrArg (·[0]?) hd
    simpa using this
   simpa using this
  have hd':ops.toList.drop (k+1)=os++rest:=by
   rw [←List.drop_drop,hd];rfl
  obtain ⟨hdst,hchk'⟩:=jdg hchk
  have hfree:∀{l:List (Nat × Path × Bool × SV)},(∀t,(lk l t).isSome=(lk st.l t).isSome)→∀t,o.dst=some t→lk l t=none∧t < a.tmps.size:=fun hll t ht=>by
   obtain ⟨h1,h2⟩:=hdst t ht
   refine ⟨?_,h1⟩
   cases he:lk _ t with
   | none=>rfl
   | some e =>
    have h3:=hll t
    rw [he] at h3
    exact absurd (hl t h3.symm).1 h2
  have next:∀{st':St} {p:Path} {c:Bool} {v:SV} {G':Gh} {val:Value} {w':World},Inv C R G' st' a w'→jza st st'→(if c then VRel R G' st'.h v val else val=undef)→jtb st'.l p c→(p=[]→c=true)→jqb C ops os (pt C st' p c o.dst v)=some st2→wpOps C.P ops Q (List.range' (k+1) (os.length+rest.length)) (a.put o.dst val) w':=by
   intro st' p c v G' val w' H' hL hv hp hc hrun
   obtain ⟨z1,z2⟩:=jta a o.dst val
   refine juk hC os (k+1) _ _ _ _ _ hd' (jlb H' hv hp hc (hfree hL)) (pt_l (fun t ht=>hl t (by rw [←hL t];exact ht))) (by rw [z1];exact hchk') hlo' hrun (fun a' w' G' seen' h1 h2 h3 h4 h5=>?_)
   have:=hQ a' w' G' seen' h1 h2 h3 (h4.trans z1) ((hst val).trans h5)
   rw [List.length_cons,show k+(os.length+1)=k+1+os.length by omega] at this
   exact this
  rw [List.length_cons,show os.length+1+rest.length=os.length+rest.length+1 by omega]
  simp only [List.range'_succ,wpOps,hk]
  simp only [jqb] at h
  split at h
  ·rename_i p c hg
   obtain ⟨hp,hc,hw⟩:=jdh H hg
   rw [hw]
   split at h
   ·rename_i ok v hlight
    split at h
    ·rename_i hok
     cases c with
     | false =>
      simp only [Bool.false_eq_true,if_false]
      exact next (c:=false) (v:=v) H (.refl _) rfl hp hc h
     | true =>
      simp only [if_true]
      have hok:=jat hok rfl
      subst hok
      refine .inl (jte hC ⟨H.W,H.bare,H.l,hp⟩ (fun t _=>H.slots t) hlight (fun val w' hext hv=>?_))
      exact next (c:=true) (v:=v) (jtc H hext) (.refl _) hv hp hc h
    ·cases h
   ·split at h
    ·split at h
     ·rename_i ok v st1 hheavy
      split at h
      ·rename_i hok
       subst hok
       have hc':=hc rfl
       subst hc'
       simp only [if_true]
       refine .inl (jlc hC H hheavy _ _ (fun val w' G' h1 h2 _=>?_))
       exact next (c:=true) (v:=v) h1 (jad hheavy) h2 (.inl ⟨rfl,rfl⟩) (fun _=>rfl) h
      ·cases h
     ·cases h
    ·rename_i q p'
     split at h
     ·rename_i hcc
      subst hcc
      split at h
      ·rename_i ok v st1 hheavy
       split at h
       ·rename_i hok
        subst hok
        simp only [if_true]
        refine .inl (jlc hC (jip H hp) hheavy _ _ (fun val w' G' h1 h2 _=>?_))
        exact next (c:=true) (v:=v) h1 ((jup _ st).trans (jad hheavy)) h2 (.inl ⟨rfl,rfl⟩) (fun _=>rfl) h
       ·cases h
      ·cases h
     ·rename_i hcc
      have:c=false:=by simpa using hcc
      subst this
      simp only [Bool.false_eq_true,if_false]
      exact next (c:=false) (v:=.undef) H (.refl _) rfl hp hc h
  ·cases h

theorem jnx {sig:Nat→Sig} {o1 o2 o3:Oper} (h:jvk sig o1 o2 o3=true):∃t x s y s2 f args ts,o1.op=.load t x∧o1.dst=some s∧o1.guard=none∧o2.op=.move y∧o2.dst=some s2∧o2.guard=none∧o3.op=.call { callee:=.value (.func f),args:=args,argTypes:=ts }∧o3.guard=none∧args=#[.tmp s,.tmp s2]∧notT s y=true:=by
 unfold jvk at h
 split at h
 ·rename_i t x s y s2 c h1 h2 h3 h4 h5 h6 h7 h8
  split at h
  ·rename_i f b1 b2 hc hargs
   simp only [Bool.and_eq_true,decide_eq_true_eq] at h
   obtain ⟨⟨⟨rfl,rfl⟩,hy⟩,_⟩:=h
   obtain ⟨callee,args,ts⟩:=c
   dsimp only at hc hargs
   subst hc
   exact ⟨t,x,_,y,_,f,args,ts,h1,h2,h3,h4,h5,h6,h7,h8,by rw [←Array.toList_inj,hargs],hy⟩
  ·cases h
 ·cases h
theorem jjt {φ φ':Nat→Prop} {ys:List (List D)} {u:Value} {sz:Nat} (h:OwnD w φ (.l ys) u) (hf:fstSz sz ys=true) (hφ:ys≠[]→∀k,φ k→φ' k):RowX w wk sz φ' ys u:=by
 generalize hd:D.l ys=d at h
 cases h with
 | b=>cases hd
 | i=>cases hd
 | s=>cases hd
 | nil=>cases hd;exact .inl (.inl ⟨rfl,rfl⟩)
 | l _ xs g o cap sz' e cur val ψ hg hp hcap hcur hsz hc hψ hdd hr =>
  cases hd
  by_cases hy:ys=[]
  ·subst hy;exact .inr ⟨rfl,rfl,_,_,rfl⟩
  ·have e1:sz'=sz:=by
    cases ys with
    | nil=>exact absurd rfl hy
    | cons r rs =>
     have h1:=hsz r (by simp)
     have h2:r.length=sz:=by simpa [fstSz] using hf
     omega
   subst e1
   exact .inl (.inr ⟨g,o,cap,e,cur,val,ψ,rfl,hg,hφ hy g hp,hcap,hcur,hsz,hc,fun i j k hk=>⟨hφ hy k (hψ i j k hk).1,(hψ i j k hk).2⟩,hdd,hr⟩)
theorem jet {a:Act} {s:Nat} {y:Operand} {val:Value} (hs:s < a.tmps.size) (hy:notT s y=true):(a.put (some s) val).eval y=a.eval y:=by
 cases y with
 | tmp t =>
  have hne:¬ t=s:=by simpa [notT] using hy
  have:=jxg (u:=t) (val:=val) hs
  rw [if_neg hne] at this
  exact this
 | _=>rfl
theorem jlt {P:Program} {o:Oper} {K:Act→World→Prop} {Q:Exit→Act→World→Prop} {val:Value} (h:(execOp a.eval o).run P w=.ok (.value val) w) (hK:K (a.put o.dst val) w):o.wp P a w K Q:=by
 unfold Oper.wp
 rw [h]
 exact hK
theorem jsi {P:Program} {ops:Array Oper} {o:Oper} {k:Nat} {l:List Nat} {Q:Exit→Act→World→Prop} (hk:ops[k]? = some o) (hw:Region.wanted o (yielded ops a.tmps)=true) (h:o.wp P a w (wpOps P ops Q l) Q):wpOps P ops Q (k :: l) a w:=by
 simp only [wpOps,hk,hw,if_true]
 exact .inl h
theorem jhv (hC:CtxOk C) {ops:Array Oper} {p0:List Nat} {Q:Exit→Act→World→Prop} {rest:List Oper} {o1 o2 o3:Oper} {k:Nat} {seen:List Nat} (hn:jvk C.sig o1 o2 o3=true) (hd:ops.toList.drop k=o1 :: o2 :: o3 :: rest) (H:Inv C R G st a w) (hl:∀t,(lk st.l t).isSome=true→t∈seen∧isIn C.keep t=false) (hchk:jbb a.tmps.size seen (o1 :: o2 :: o3 :: rest)=true) (hlo:jub p0 (o1 :: o2 :: o3 :: rest)=true) (h:jyo C st o1 o2 o3=some (true,st2))
  (hQ:∀a' w' G' seen',Inv C R G' st2 a' w'→(∀t,(lk st2.l t).isSome=true→t∈seen'∧isIn C.keep t=false)→jbb a'.tmps.size seen' rest=true→a'.tmps.size=a.tmps.size→jsa p0 a a'→wpOps C.P ops Q (List.range' (k+3) rest.length) a' w'):wpOps C.P ops Q (List.range' k (rest.length+3)) a w:=by
 obtain ⟨t,x,s,y,s2,f,args,ts,p1,p2,p3,p4,p5,p6,p7,p8,p9,p10⟩:=jnx hn
 have hk1:ops[k]? = some o1:=by
  have:=congrArg (·[0]?) hd
  simpa using this
 have hk2:ops[k+1]? = some o2:=by
  have:=congrArg (·[1]?) hd
  simpa using this
 have hk3:ops[k+1+1]? = some o3:=by
  have:=congrArg (·[2]?) hd
  simpa using this
 obtain ⟨d1,c1⟩:=jdg hchk
 rw [p2] at c1 d1
 obtain ⟨d2,c2⟩:=jdg c1
 rw [p5] at c2 d2
 obtain ⟨d3,c3⟩:=jdg c2
 obtain ⟨d11,d12⟩:=d1 s rfl
 obtain ⟨d21,d22⟩:=d2 s2 rfl
 simp only [List.mem_cons,not_or] at d22
 obtain ⟨d22,d23⟩:=d22
 unfold jyo at h
 rw [p1,p4,p7] at h
 dsimp only at h
 split at h
 ·rename_i el n i off dk f' ht hx hy hcal
  cases hcal
  split at h
  ·rename_i e sz xs e1 sz1 zs hrow hms hr
   split at h
   ·rename_i ok rs ys hF'
    simp only [Option.some.injEq,Prod.mk.injEq,Bool.and_eq_true,decide_eq_true_eq] at h
    obtain ⟨⟨hok,⟨⟨⟨hwk,hsz1⟩,hoff⟩,hisF⟩,hfst⟩,rfl⟩:=h
    subst hok
    subst hwk
    -- the row, its element, its cell
    obtain ⟨hlive,e',sz',xs',hb',g,b,len,cap,hhv,hpv⟩:=H.evE hx
    rw [hrow] at hb';cases hb'
    obtain ⟨bb,hb',hbr⟩:=H.B.rel n hlive id
    rw [hrow] at hb';cases hb'
    have hi0:i < xs.length:=by
     rw [List.getD_eq_getElem?_getD] at hoff
     cases hxi:xs[i]? with
     | none=>rw [hxi] at hoff;simp at hoff
     | some r=>exact (List.getElem?_eq_some_iff.1 hxi).1
    have hri:xs[i]? = some (xs.getD i []):=by simp [List.getD_eq_getElem?_getD,hi0]
    have hnd:nthD (xs.getD i []) off=.l (asL (nthD (xs.getD i []) off)):=by
     simp only [isF,Bool.and_true] at hisF
     cases hq:nthD (xs.getD i []) off<;>rw [hq] at hisF<;>simp [isD] at hisF
     rfl
    generalize hr0:xs.getD i []=r at hri hnd hoff hfst hF'
    generalize hy0:asL (nthD r off)=ys0 at hnd hfst hF'
    have hcell:r[off]? = some (.l ys0):=by rw [jkg (by omega),hnd]
    rcases hbr.1.some (by rintro rfl;simp at hi0) with ⟨h1,_⟩ | ⟨g',b',cap',t',cur,val,ψ,h1,hg,hφg,hcap,hcur,hsz,hc,hψ,hdd,hown⟩
    ·rw [hhv] at h1;cases h1
    have h1':=h1
    rw [hhv] at h1
    simp only [Value.slice.injEq,Option.some.injEq,Addr.mk.injEq,and_true] at h1
    obtain ⟨⟨rfl,rfl⟩,rfl,rfl⟩:=h1
    have hu0:=hown i r off _ hri hcell
    have hcu:=hc i r off _ hri hcell
    generalize hu:val i off=u at hu0 hcu
    have hone:u.oneCell'=true:=hu0.one
    -- the machine, up to the call
    have hvk:=H.evE hy
    have hok1:okTy (tyOf C.P t)=true:=by rw [ht];rfl
    have hcw:w.cell? ⟨g,b+i * sz+off,none⟩=some u:=by rw [cell_of_row w _ _ cur t' (0,0) hg];exact hcu
    have hrun:=jkb (P:=C.P) (w:=w) (g:=g) (o:=b+i * sz+off) (vs:=[u]) hok1 (by rw [ht];rfl) (fun j u' hj=>by
     cases j with
     | zero=>simp at hj;subst hj;simpa using hcw
     | succ j=>simp at hj)
    rw [show isAggTy (tyOf C.P t)=false by rw [ht];rfl] at hrun
    simp only [Bool.false_eq_true,if_false,List.headD_cons] at hrun
    have w1:Region.wanted o1 (yielded ops a.tmps)=true:=by simp [Region.wanted,p3]
    rw [show rest.length+3=rest.length+1+1+1 by omega]
    rw [List.range'_succ,List.range'_succ,List.range'_succ]
    refine jsi hk1 w1 (jlt (val:=u) (by simp [execOp,p1,hpv,Instr.loadAt,Instr.sureAddr,hrun]) ?_)
    have w2:Region.wanted o2 (yielded ops (a.put o1.dst u).tmps)=true:=by simp [Region.wanted,p6]
    have hey:(a.put o1.dst u).eval y=a.eval y:=by rw [p2];exact jet d11 p10
    refine jsi hk2 w2 (jlt (val:=a.eval y) (by simp [execOp,p4,hey]) ?_)
    generalize ha2:(a.put o1.dst u).put o2.dst (a.eval y)=a2
    have s1:(a.put o1.dst u).tmps.size=a.tmps.size:=(jta _ _ _).1
    have s2':a2.tmps.size=a.tmps.size:=by rw [←ha2];exact (jta _ _ _).1.trans s1
    have w3:Region.wanted o3 (yielded ops a2.tmps)=true:=by simp [Region.wanted,p8]
    refine jsi hk3 w3 ?_
    have e1:a2.eval (.tmp s)=u:=by
     rw [←ha2,p5,jet (by rw [s1];exact d21) (by simp [notT];exact fun h=>d22 h.symm),p2]
     show (a.put (some s) u).tmps.getD s undef=u
     rw [jxg d11,if_pos rfl]
    have e2:a2.eval (.tmp s2)=a.eval y:=by
     rw [←ha2,p5]
     show ((a.put o1.dst u).put (some s2) (a.eval y)).tmps.getD s2 undef=a.eval y
     rw [jxg (by rw [s1];exact d21),if_pos rfl]
    -- the call
    have hF:opt (C.F f [.one (.l ys0),.one dk])=some (rs,[[.l ys]]):=by rw [hF'];rfl
    have hmn:=H.B.mine n hlive id
    let L:Nat→Prop:=fun k=>ys0≠[]∧ψ i off k
    have hLφ:∀{k:Nat},L k→G.φ n k∧k≠g:=fun hk=>hψ i off _ hk.2
    let R':Rt:=R.sub G (·=n) w L (fun _ _ _=>False)
    have hP:Pre C.P (C.sig f) R' [.one (.l ys0),.one dk] [u,a.eval y] (fun i' j k=>i'=0∧j=1∧L k):={
     W:={
      os:=rfl,tape:=rfl,output:=rfl,size:=Nat.le_refl _
      T:=fun k hk=>by
       rcases hk with hk | ⟨m,⟨hm,hmn'⟩,hk⟩
       ·refine ⟨Nat.lt_of_lt_of_le (H.W.T k hk).1 H.W.size,fun hL=>?_⟩
        rcases (hmn k (hLφ hL).1).2 with h2 | h2
        ·exact (H.W.T k hk).2 h2
        ·have:=(H.W.T k hk).1;omega
       ·exact ⟨(H.B.mine m hm id k hk).1,fun hL=>H.B.disj n m hlive id hm id (fun e=>hmn' e.symm) k (hLφ hL).1 hk⟩
      old:=fun _ _ _=>rfl
      out:=fun k lo hi h=>h.elim }
     args:=by
      rw [hms]
      refine ⟨⟨⟨rfl,rfl,fun j q d v' a1 a2 a3=>?_⟩,hone⟩,jwd H.W hvk,trivial⟩
      cases j with
      | zero =>
       simp at a1 a2 a3;subst a1 a2 a3
       exact ⟨hone,ys0,rfl,jjt hu0 hfst (fun hne k hk=>⟨rfl,rfl,hne,hk⟩),.inl rfl,hsz1⟩
      | succ j=>simp at a1
     mine:=fun i' j k hk=>⟨(hmn k (hLφ hk.2.2).1).1,hk.2.2⟩
     lb:=fun _ _ _ _ _ _ h=>h.elim
     apart:=fun i1 j1 i2 j2 k ⟨h1,h2,_⟩ ⟨h3,h4,_⟩=>⟨by omega,by omega⟩
     noLB:=fun _ _ _ _ h=>h.elim }
    have hcall:=hC.spec f R' _ _ _ rs [[.l ys]] hF rfl hP
    unfold Oper.wp
    have harr:(args.map a2.eval)=[u,a.eval y].toArray:=by rw [p9];simp [e1,e2]
    rw [jae (hC.fn _ _ _ hF) p7]
    show Calls C.P f _ w _
    rw [harr]
    refine hcall.mono fun ex w' he=>?_
    obtain ⟨rv,Ξ,Ω,rfl,p⟩:=he
    have hold:∀k,k < w.heap.size→¬ L k→w'.heap[k]? = w.heap[k]?:=fun k h1 h2=>p.W.old k h1 h2
    have hszw:w.heap.size≤w'.heap.size:=p.W.size
    have hgL:¬ L g:=fun hk=>(hLφ hk).2 rfl
    have hgw:w'.heap[g]? = some (.cells cur t' (0,0)):=by rw [hold g (hmn g hφg).1 hgL];exact hg
    have hout:RowX w' wk sz1 (Ω 0 1) ys u:=by
     have:=p.outs
     rw [hms] at this
     obtain ⟨⟨_,_,k3⟩,_⟩:=this
     obtain ⟨_,xs2,q1,q2,_⟩:=k3 0 _ _ u rfl rfl (by rw [jih hone];rfl)
     cases q1;exact q2
    have hlen:ys.length=ys0.length:=by
     obtain ⟨A1,c1,q1⟩:=hout.len
     obtain ⟨A2,c2,q2⟩:=(jjt (φ':=ψ i off) hu0 hfst (fun _ _ h=>h)).len
     rw [q1] at q2
     simp only [Value.slice.injEq] at q2
     exact q2.2.1
    let ψ':Nat→Prop:=fun k=>(ys0≠[]∧Ω 0 1 k)∨(ys0=[]∧ψ i off k)
    have hu':OwnD w' ψ' (.l ys) u:=by
     by_cases hne:ys0=[]
     ·have hys:ys=[]:=List.eq_nil_of_length_eq_zero (by rw [hlen,hne];rfl)
      subst hys
      rw [hne] at hu0
      exact hu0.mono (fun k hk=>.inr ⟨hne,hk⟩) (fun k hk=>hold k (hmn k (hψ i off k hk).1).1 (fun h=>h.1 hne))
     ·exact (hout.some (fun h=>hne (List.eq_nil_of_length_eq_zero (by rw [←hlen,h];rfl)))).own.mono (fun k hk=>.inl ⟨hne,hk⟩) (fun _ _=>rfl)
    have hΩ:∀{k:Nat},Ω 0 1 k→(L k∨w.heap.size≤k):=fun hk=>(p.mineO _ _ _ hk).2
    have hψ':∀{k:Nat},ψ' k→(ψ i off k∨w.heap.size≤k)∧(ψ i off k∨Ω 0 1 k):=fun hk=>by
     rcases hk with ⟨_,hk⟩ | ⟨_,hk⟩
     ·exact ⟨(hΩ hk).imp (·.2) id,.inr hk⟩
     ·exact ⟨.inl hk,.inl hk⟩
    let φ':Nat→Prop:=fun k=>G.φ n k∨Ω 0 1 k
    have hmod:∀{i':Nat} {r':List D},(xs.modify i fun r=>r.take off++[.l ys]++r.drop (off+1))[i']? = some r'→∃r1,xs[i']? = some r1∧r'=if i=i' then r1.take off++[.l ys]++r1.drop (off+1) else r1:=fun {i' r'} hh=>by
     simp only [List.getElem?_modify,Option.map_eq_map,Option.map_eq_some_iff] at hh
     obtain ⟨r1,q1,q2⟩:=hh
     refine ⟨r1,q1,q2.symm.trans ?_⟩
     split<;>rfl
    have hrow':RowR w' e sz φ' (xs.modify i fun r=>r.take off++[.l ys]++r.drop (off+1)) (G.hv n):=by
     refine .inr ⟨g,b,cap,t',cur,val,fun i' j' k=>if i'=i∧j'=off then ψ' k else ψ i' j' k,?_,hgw,.inl hφg,by rw [List.length_modify];exact hcap,hcur,jnn (xs:=[.l ys]) hsz (by rw [←hsz r (List.mem_of_getElem? hri)];exact hoff),?_,?_,?_,?_⟩
     ·rw [h1',List.length_modify]
     ·intro i' r' j' d' q1 q2
      obtain ⟨r1,q3,rfl⟩:=hmod q1
      obtain ⟨d0,hd0⟩:∃d0,r1[j']? = some d0:=by
       have hlt:j' < r1.length:=by
        have hj:=(List.getElem?_eq_some_iff.1 q2).1
        split at hj
        ·rename_i hii
         subst hii
         rw [hri] at q3;cases q3
         simp at hj;omega
        ·exact hj
       exact ⟨r1[j'],by simp⟩
      exact hc i' r1 j' d0 q3 hd0
     ·intro i' j' k hk
      split at hk
      ·obtain ⟨q1,q2⟩:=hψ' hk
       refine ⟨?_,?_⟩
       ·rcases q2 with q2 | q2
        ·exact .inl (hψ i off k q2).1
        ·exact .inr q2
       ·rcases q1 with q1 | q1
        ·exact (hψ i off k q1).2
        ·have:=(hmn g hφg).1;omega
      ·exact ⟨.inl (hψ i' j' k hk).1,(hψ i' j' k hk).2⟩
     ·intro i1 j1 i2 j2 k hk hk'
      have old:∀{i' j':Nat},¬ (i'=i∧j'=off)→ψ' k→ψ i' j' k→False:=fun hne q1 q2=>by
       rcases (hψ' q1).1 with q3 | q3
       ·exact hne (hdd _ _ _ _ k q2 q3)
       ·have:=(hmn k (hψ _ _ k q2).1).1;omega
      split at hk<;>split at hk'
      ·rename_i q1 q2;exact ⟨q1.1.trans q2.1.symm,q1.2.trans q2.2.symm⟩
      ·rename_i q1 q2;exact (old q2 hk hk').elim
      ·rename_i q1 q2;exact (old q1 hk' hk).elim
      ·exact hdd _ _ _ _ k hk hk'
     ·intro i' r' j' d' q1 q2
      obtain ⟨r1,q3,rfl⟩:=hmod q1
      by_cases hh:i'=i∧j'=off
      ·obtain ⟨rfl,rfl⟩:=hh
       rw [hri] at q3;cases q3
       simp only [if_true,and_self]
       rw [if_pos rfl,List.append_assoc,List.getElem?_append_right (by simp;omega)] at q2
       rw [List.length_take,Nat.min_eq_left (by omega),Nat.sub_self] at q2
       simp at q2
       subst q2
       rw [hu];exact hu'
      ·have ef:(fun i' j' k=>if i'=i∧j'=off then ψ' k else ψ i' j' k) i' j'=ψ i' j':=by funext k;dsimp only;rw [if_neg hh]
       rw [ef]
       have hd0:r1[j']? = some d':=by
        split at q2
        ·rename_i hii
         subst hii
         have hjo:j'≠off:=fun e=>hh ⟨rfl,e⟩
         rw [hri] at q3;cases q3
         rw [List.append_assoc] at q2
         by_cases hlt:j' < off
         ·rw [List.getElem?_append_left (by simp;omega),List.getElem?_take,if_pos hlt] at q2;exact q2
         ·rw [List.getElem?_append_right (by simp;omega),List.length_take,Nat.min_eq_left (by omega),List.getElem?_append_right (by simp;omega),List.getElem?_drop] at q2
          rw [←q2];congr 1;simp;omega
        ·exact q2
       exact (hown i' r1 j' d' q3 hd0).mono (fun _ h=>h) (fun k hk=>hold k (hmn k (hψ i' j' k hk).1).1 (fun hL=>hh (hdd _ _ _ _ k hk hL.2)))
    have hrow4:=hbr.2.2.2
    have hW:WInv R w':=jaq H.W p.W.os p.W.tape p.W.output hszw (φ:=L) (fun k hk=>⟨(hmn k (hLφ hk).1).2,fun lo hi=>hrow4 k lo hi (hLφ hk).1⟩) hold
    obtain ⟨j1,j2⟩:=jwu (ψ:=φ') H hlive hrow hW hszw (fun m hm hmn' k hk=>hold k (H.B.mine m hm id k hk).1 (fun hL=>H.B.disj n m hlive id hm id (Ne.symm hmn') k (hLφ hL).1 hk)) hrow'
     (fun k hk=>by
      rcases hk with hk | hk
      ·exact ⟨Nat.lt_of_lt_of_le (hmn k hk).1 hszw,(hmn k hk).2,fun lo hi=>hrow4 k lo hi hk⟩
      ·refine ⟨(p.mineO _ _ _ hk).1,?_,fun lo hi hlb=>?_⟩
       ·rcases hΩ hk with hL | h6
        ·exact (hmn k (hLφ hL).1).2
        ·exact .inr (Nat.le_trans H.W.size h6)
       ·rcases hΩ hk with hL | h6
        ·exact hrow4 k lo hi (hLφ hL).1 hlb
        ·have h5:=jjg H.W hlb
         have h6':=H.W.size
         omega)
     (fun k m hk hm hmn' hφ=>by
      rcases hk with hk | hk
      ·exact H.B.disj n m hlive id hm id (Ne.symm hmn') k hk hφ
      ·rcases hΩ hk with hL | h6
       ·exact H.B.disj n m hlive id hm id (Ne.symm hmn') k (hLφ hL).1 hφ
       ·have:=(H.B.mine m hm id k hφ).1;omega)
    -- the slots
    have hnone:∀{q:Nat},q ∉ seen→lk st.l q=none:=fun {q} hq=>by
     cases he:lk st.l q with
     | none=>rfl
     | some z=>exact absurd (hl q (by rw [he];rfl)).1 hq
    have k1:=jlb (v:=.undef) (p:=[]) (c:=true) (dst:=o1.dst) (val:=u) j1 trivial (.inl ⟨rfl,rfl⟩) (fun _=>rfl) (fun q hq=>by rw [p2] at hq;cases hq;exact ⟨hnone d12,d11⟩)
    have l1:=pt_l (C:=C) (st:={ st with h:=hset st.h n (.row e sz (xs.modify i fun r=>r.take off++[.l ys]++r.drop (off+1))) }) (v:=.undef) (p:=[]) (c:=true) (dst:=o1.dst) (seen:=seen) hl
    rw [p2] at l1
    have nn1:∀{q:Nat} {Z:St},(∀t,(lk Z.l t).isSome=true→t∈s :: seen∧isIn C.keep t=false)→q ∉ s :: seen→lk Z.l q=none:=fun {q Z} hZ hq=>by
     cases he:lk Z.l q with
     | none=>rfl
     | some z=>exact absurd (hZ q (by rw [he];rfl)).1 hq
    have k2:=jlb (v:=.d dk) (p:=[]) (c:=true) (dst:=o2.dst) (val:=a.eval y) k1 hvk (.inl ⟨rfl,rfl⟩) (fun _=>rfl) (fun q hq=>by rw [p5] at hq;cases hq;rw [p2];exact ⟨nn1 l1 (by simp [d22,d23]),by rw [(jta a (some s) u).1];exact d21⟩)
    have l2:=pt_l (C:=C) (v:=.d dk) (p:=[]) (c:=true) (dst:=o2.dst) (seen:=s :: seen) l1
    rw [←p2] at l2
    have nn2:∀{q:Nat} {Z:St},(∀t,(lk Z.l t).isSome=true→t∈s2 :: s :: seen∧isIn C.keep t=false)→q ∉ s2 :: s :: seen→lk Z.l q=none:=fun {q Z} hZ hq=>by
     cases he:lk Z.l q with
     | none=>rfl
     | some z=>exact absurd (hZ q (by rw [he];rfl)).1 hq
    have l2':=l2
    rw [p5] at l2'
    rw [ha2] at k2
    have hres:=p.res
    rw [hr] at hres
    have k3:=jlb (v:=single (svsOf rs)) (p:=[]) (c:=true) (dst:=o3.dst) (val:=jke rv) k2 (jec (jng R _ _ hres) (jaf rs)) (.inl ⟨rfl,rfl⟩) (fun _=>rfl) (fun q hq=>⟨by
     have:=(d3 q hq).2
     rw [←p5] at l2'
     exact nn2 (Z:=pt C (pt C { st with h:=hset st.h n (.row e sz (xs.modify i fun r=>r.take off++[.l ys]++r.drop (off+1))) } [] true o1.dst .undef) [] true o2.dst (.d dk)) (by rw [p5] at l2' ⊢;exact l2') this,by rw [s2'];exact (d3 q hq).1⟩)
    have l3:=pt_l (C:=C) (v:=single (svsOf rs)) (p:=[]) (c:=true) (dst:=o3.dst) (seen:=s2 :: s :: seen) l2'
    obtain ⟨z1,_⟩:=jta a2 o3.dst (jke rv)
    have st1':jsa p0 a (a.put o1.dst u):=jqd (jjd hlo o1 (by simp))
    have st2':jsa p0 (a.put o1.dst u) a2:=by rw [←ha2];exact jqd (jjd hlo o2 (by simp))
    have st3':jsa p0 a2 (a2.put o3.dst (jke rv)):=jqd (jjd hlo o3 (by simp))
    have:=hQ _ w' _ _ k3 (by rw [←p5] at l3;exact l3) (by rw [z1,s2'];exact c3) (z1.trans s2') ((st1'.trans st2').trans st3')
    exact this
   ·cases h
  ·cases h
 ·cases h
theorem jqq {sig:Nat→Sig}:∀{os pre post:List Oper} {o1 o2 o3:Oper},jki sig os=some (pre,o1,o2,o3,post)→os=pre++o1 :: o2 :: o3 :: post∧jvk sig o1 o2 o3=true
 | [],pre,post,o1,o2,o3,h=>by cases h
 | [_],pre,post,o1,o2,o3,h=>by cases h
 | [_,_],pre,post,o1,o2,o3,h=>by cases h
 | p1 :: p2 :: p3 :: os,pre,post,o1,o2,o3,h=>by
  simp only [jki] at h
  split at h
  ·rename_i hn;cases h;exact ⟨rfl,hn⟩
  ·split at h
   ·rename_i q r hq
    cases h
    obtain ⟨h1,h2⟩:=jqq hq
    exact ⟨by rw [h1];rfl,h2⟩
   ·cases h
theorem jct (hC:CtxOk C) {ops:Array Oper} {p0:List Nat} {Q:Exit→Act→World→Prop} (H:Inv C R G st a w) (hl:st.l=[]) (hchk:jbb a.tmps.size [] ops.toList=true) (hlo:jub p0 ops.toList=true) (h:jvg C ops st=some st2)
  (hQ:∀a' w' G',Inv C R G' st2 a' w'→st2.l=[]→a'.tmps.size=a.tmps.size→jsa p0 a a'→Q .normal a' w'):wpOps C.P ops Q (List.range' 0 ops.toList.length) a w:=by
 have hl0:∀t,(lk st.l t).isSome=true→t∈([]:List Nat)∧isIn C.keep t=false:=fun t ht=>by rw [hl] at ht;simp [lk] at ht
 unfold jvg at h
 split at h
 ·exact jbe hC ops.toList 0 [] st G a w (by simp) H hl0 hchk hlo h hQ
 ·rename_i pre o1 o2 o3 post hnest
  obtain ⟨e1,hn⟩:=jqq hnest
  rw [Option.bind_eq_some_iff] at h
  obtain ⟨st1,h1,h2⟩:=h
  have hlo':jub p0 (o1 :: o2 :: o3 :: post)=true:=by rw [e1] at hlo;simp only [jub,List.all_append,Bool.and_eq_true] at hlo;exact hlo.2
  have hdk:ops.toList.drop pre.length=o1 :: o2 :: o3 :: post:=by rw [e1];simp
  have:=juk (Q:=Q) (rest:=o1 :: o2 :: o3 :: post) hC pre 0 [] st G a w (by rw [List.drop_zero];exact e1) H hl0 (by rw [←e1];exact hchk) (by rw [←e1];exact hlo) h1 (fun a1 w1 G1 seen1 i1 i2 i3 i4 i5=>by
   rw [Nat.zero_add]
   split at h2
   ·split at h2
    ·rename_i ok st2' hn3
     split at h2
     ·rename_i hok
      subst hok
      refine jhv hC hn hdk i1 i2 i3 hlo' hn3 (fun a2 w2 G2 seen2 j1 j2 j3 j4 j5=>?_)
      exact jbe hC post (pre.length+3) seen2 st2' G2 a2 w2 (by rw [←List.drop_drop,hdk];rfl) j1 j2 j3 (by simp only [jub,List.all_cons,Bool.and_eq_true] at hlo' ⊢;exact hlo'.2.2.2) h2 (fun a' w' G' k1 k2 k3 k4=>hQ a' w' G' k1 k2 (k3.trans (j4.trans i4)) ((i5.trans j5).trans k4))
     ·cases h2
    ·cases h2
   ·exact jbe hC (o1 :: o2 :: o3 :: post) pre.length seen1 st1 G1 a1 w1 hdk i1 i2 i3 hlo' h2 (fun a' w' G' k1 k2 k3 k4=>hQ a' w' G' k1 k2 (k3.trans i4) (i5.trans k4)))
  rw [e1,List.length_append]
  exact this
end Go.Den

/- What an operation comes to depends on what it reads alone. -/
namespace Go.Den
open Go
variable {C:Ctx} {st st' st1:St} {p:Path} {op:Op}

theorem jbc {xs:List Operand} (h:∀x∈xs,ev C st' p x=ev C st p x):evs C st' p xs=evs C st p xs:=by
 induction xs with
 | nil=>rfl
 | cons x xs ih=>simp only [evs,h x (by simp),ih (fun y hy=>h y (by simp [hy]))]
theorem load_h (hh:st'.h=st.h) (t:TypeId) (v:SV):load C st' t v=load C st t v:=by cases v<;>simp only [load,hh]
theorem lenOf_h (hh:st'.h=st.h) (t:Ty) (v:SV):lenOf st' t v=lenOf st t v:=by cases t<;>cases v<;>simp only [lenOf,hh]
theorem jvh {fs:List (Nat × Nat)}:∀{parts:List (Nat × Operand)} {cs:List SV},(∀q∈parts,ev C st' p q.2=ev C st p q.2)→fillB C st' p fs parts cs=fillB C st p fs parts cs
 | [],cs,_=>rfl
 | (i,x) :: r,cs,h=>by
  simp only [fillB,h (i,x) (by simp)]
  split
  ·split
   ·exact jvh (fun q hq=>h q (by simp [hq]))
   ·rfl
  ·rfl
theorem jye (hh:st'.h=st.h) (hA:∀t,Operand.tmp t∈op.operands.toList→∀p,gt C st' p t=gt C st p t):light C st' p op=light C st p op:=by
 have hev:∀x∈op.operands.toList,∀p,ev C st' p x=ev C st p x:=fun x hx p=>by
  cases x with
  | tmp t=>exact hA t hx p
  | _=>rfl
 cases op
 case pick c x y =>
  cases c with
  | tmp t=>simp only [light,hA t (by simp [Op.operands]),hev x (by simp [Op.operands]),hev y (by simp [Op.operands])]
  | _=>rfl
 case build t parts =>
  simp only [light]
  split
  ·rw [jvh (fun q hq=>hev q.2 (by simp only [Op.operands,List.mem_map];exact ⟨q,hq,rfl⟩) p)]
  ·rfl
 case call c =>
  obtain ⟨callee,args,ts⟩:=c
  have ha:∀x∈args.toList,ev C st' p x=ev C st p x:=fun x hx=>hev x (by simp [Op.operands,Call.operands];cases callee<;>simp<;>first | exact .inr (by simpa using hx) | simpa using hx) p
  simp only [light]
  split
  ·split
   ·rename_i t x h1 h2
    rw [ha x (by rw [h2];simp),lenOf_h hh]
   ·rfl
  ·split
   ·rename_i x y h2;rw [ha x (by rw [h2];simp),ha y (by rw [h2];simp)]
   ·rfl
  ·split
   ·rename_i x y h2;rw [ha x (by rw [h2];simp),ha y (by rw [h2];simp)]
   ·rfl
  ·split
   ·rw [jbc ha,jhf hh]
   ·rw [jbc ha]
   ·rfl
  ·rename_i t
   rw [hA t (by simp [Op.operands,Call.operands]) p]
   split
   ·simp only [jro,jbc ha,jhf hh]
   ·rfl
  ·rfl
 case slice t x lo hi mx =>
  cases mx with
  | some m=>rfl
  | none =>
   have h1:lo.map (ev C st' p)=lo.map (ev C st p):=by cases lo with | none=>rfl | some y=>simp [hev y (by simp [Op.operands])]
   have h2:hi.map (ev C st' p)=hi.map (ev C st p):=by cases hi with | none=>rfl | some y=>simp [hev y (by simp [Op.operands])]
   simp only [light,hev x (by simp [Op.operands]),h1,h2,hh]
 case convert s d x=>simp only [light,hev x (by simp [Op.operands]),hh]
 case indexAddr t x y=>simp only [light,hev x (by simp [Op.operands]),hev y (by simp [Op.operands]),hh]
 case index t x y=>simp only [light,hev x (by simp [Op.operands]),hev y (by simp [Op.operands])]
 case binOp o t x y ty=>simp only [light,hev x (by simp [Op.operands]),hev y (by simp [Op.operands])]
 case load t x=>simp only [light,hev x (by simp [Op.operands]),load_h hh,hh]
 case unOp u t x=>cases u<;>simp only [light,hev x (by simp [Op.operands])]
 case move x=>simp only [light,hev x (by simp [Op.operands])]
 case assign x=>simp only [light,hev x (by simp [Op.operands])]
 case nilCheck x=>simp only [light,hev x (by simp [Op.operands])]
 case fieldAddr t x f=>simp only [light,hev x (by simp [Op.operands])]
 case field t x f=>simp only [light,hev x (by simp [Op.operands])]
 case extract x i=>simp only [light,hev x (by simp [Op.operands])]
 case makeFunc fn fs cap =>
  cases fn with
  | func f =>
   simp only [light]
   split
   ·rename_i x hfs hcap
    rw [hev x (by simp only [Op.operands];simp;exact .inl (by rw [←Array.mem_toList_iff,hfs];simp))]
   ·rfl
  | _=>rfl
 all_goals rfl
end Go.Den

/- Two states with the same memory: a heavy operation does the same to both. -/
namespace Go.Den
open Go
variable {C:Ctx} {st st' st1 st1' st2 st2':St} {p:Path} {op:Op} {v:SV}

def jva:List Nat→List SV→List SV | [],m=>m | n :: ns,m=>jva ns (killM n m)
def jpa:List Nat→List (Nat × Path × Bool × SV)→List (Nat × Path × Bool × SV) | [],l=>l | n :: ns,l=>jpa ns (killL n l)
theorem jgd:∀(a b:List Nat) (m:List SV),jva (a++b) m=jva b (jva a m)
 | [],b,m=>rfl
 | n :: a,b,m=>by simp only [List.cons_append,jva,jgd a b]
theorem jdd:∀(a b:List Nat) (l:List (Nat × Path × Bool × SV)),jpa (a++b) l=jpa b (jpa a l)
 | [],b,l=>rfl
 | n :: a,b,l=>by simp only [List.cons_append,jpa,jdd a b]
def Sim (st st1 st' st1':St):Prop:=∃ns,st1.m=jva ns st.m∧st1.l=jpa ns st.l∧st1'.m=jva ns st'.m∧st1'.l=jpa ns st'.l∧st1'.h=st1.h
theorem Sim.refl (hh:st'.h=st.h):Sim st st st' st':=⟨[],rfl,rfl,rfl,rfl,hh⟩
theorem Sim.trans (A:Sim st st1 st' st1') (B:Sim st1 st2 st1' st2'):Sim st st2 st' st2':=by
 obtain ⟨a,a1,a2,a3,a4,a5⟩:=A
 obtain ⟨b,b1,b2,b3,b4,b5⟩:=B
 exact ⟨a++b,by rw [jgd,←a1,b1],by rw [jdd,←a2,b2],by rw [jgd,←a3,b3],by rw [jdd,←a4,b4],b5⟩
theorem Sim.h (A:Sim st st1 st' st1'):st1'.h=st1.h:=by obtain ⟨_,_,_,_,_,h⟩:=A;exact h
theorem jig (n:Nat) (h h':List (Nat × Blk)) (e:h'=h):Sim st { kill st n with h:=h } st' { kill st' n with h:=h' }:=⟨[n],rfl,rfl,rfl,rfl,e⟩
theorem jcm (h h':List (Nat × Blk)) (e:h'=h):Sim st { st with h:=h } st' { st' with h:=h' }:=⟨[],rfl,rfl,rfl,rfl,e⟩

theorem jfx {x:SV} {d:D} (hh:st'.h=st.h) (h:take1 st x=some (d,st1)):∃st1',take1 st' x=some (d,st1')∧Sim st st1 st' st1':=by
 unfold take1 at h
 split at h
 ·split at h
  ·rename_i hs;cases h;exact ⟨st',by simp [take1,hs],.refl hh⟩
  ·cases h
 ·cases h;exact ⟨st',rfl,.refl hh⟩
 ·rename_i n
  split at h
  ·rename_i hr
   split at h
   ·cases h
   rename_i hwk
   cases h
   exact ⟨{ kill st' n with h:=hdel (killH n st'.h) n },by simp only [take1,hh,hr,if_neg hwk],jig _ _ _ (by rw [hh])⟩
  ·cases h
 ·cases h
theorem jyj:∀{vs:List SV} {ds:List D} {st st1 st':St},st'.h=st.h→takes st vs=some (ds,st1)→∃st1',takes st' vs=some (ds,st1')∧Sim st st1 st' st1'
 | [],ds,st,st1,st',hh,h=>by simp only [takes,Option.some.injEq,Prod.mk.injEq] at h;obtain ⟨rfl,rfl⟩:=h;exact ⟨st',rfl,.refl hh⟩
 | v :: vs,ds,st,st1,st',hh,h=>by
  simp only [takes] at h
  split at h
  ·rename_i x sta h1
   split at h
   ·rename_i xs stb h2
    cases h
    obtain ⟨sta',k1,k2⟩:=jfx hh h1
    obtain ⟨stb',k3,k4⟩:=jyj k2.h h2
    exact ⟨stb',by simp only [takes,k1,k3],k2.trans k4⟩
   ·cases h
  ·cases h
theorem jcf:∀{ks:List (Option (Nat × Nat))} {vs:List SV} {ds:List D} {st st1 st':St},st'.h=st.h→takeK st ks vs=some (ds,st1)→∃st1',takeK st' ks vs=some (ds,st1')∧Sim st st1 st' st1'
 | [],vs,ds,st,st1,st',hh,h=>by
  cases vs with
  | nil=>simp only [takeK,Option.some.injEq,Prod.mk.injEq] at h;obtain ⟨rfl,rfl⟩:=h;exact ⟨st',rfl,.refl hh⟩
  | cons v vs=>simp [takeK] at h
 | none :: ks,vs,ds,st,st1,st',hh,h=>by
  cases vs with
  | nil=>simp [takeK] at h
  | cons v vs =>
   cases v<;>simp only [takeK] at h
   case d x =>
    split at h
    ·rename_i h2;cases h;obtain ⟨s',k1,k2⟩:=jcf hh h2;exact ⟨s',by simp only [takeK,k1],k2⟩
    ·cases h
   case bx m i x =>
    split at h
    ·rename_i h2;cases h;obtain ⟨s',k1,k2⟩:=jcf hh h2;exact ⟨s',by simp only [takeK,k1],k2⟩
    ·cases h
   all_goals cases h
 | some (e,sz) :: ks,vs,ds,st,st1,st',hh,h=>by
  cases vs with
  | nil=>simp [takeK] at h
  | cons v vs =>
   simp only [takeK] at h
   split at h
   ·split at h
    ·rename_i h2;cases h;obtain ⟨s',k1,k2⟩:=jcf hh h2;exact ⟨s',by simp only [takeK,k1],k2⟩
    ·cases h
   ·split at h
    ·rename_i hr
     split at h
     ·rename_i he
      split at h
      ·rename_i h2
       cases h
       obtain ⟨s',k1,k2⟩:=jcf (st':={ kill st' _ with h:=hdel (killH _ st'.h) _ }) (by rw [hh]) h2
       exact ⟨s',by simp only [takeK,hh,hr,he,and_self,if_true];rw [hh] at k1;simp only [k1],(jig _ _ _ (by rw [hh])).trans k2⟩
      ·cases h
     ·cases h
    ·cases h
   ·cases h
theorem jne:∀{xs:List (Nat × Blk)} {st st1 st':St},st'.h=st.h→adds st xs=some st1→∃st1',adds st' xs=some st1'∧Sim st st1 st' st1'
 | [],st,st1,st',hh,h=>by simp only [adds,Option.some.injEq] at h;subst h;exact ⟨st',rfl,.refl hh⟩
 | (n,b) :: r,st,st1,st',hh,h=>by
  simp only [adds] at h
  split at h
  ·cases h
  ·rename_i hn
   obtain ⟨s',k1,k2⟩:=jne (st':={ st' with h:=st'.h++[(n,b)] }) (by rw [hh]) h
   exact ⟨s',by simp only [adds,hh,hn];rw [hh] at k1;exact k1,(jcm _ _ (by rw [hh])).trans k2⟩
end Go.Den

/- The same for calls, appends, stores. -/
namespace Go.Den
open Go
variable {C:Ctx} {st st' st1 st1' st2 st2':St} {p:Path} {op:Op} {v:SV}

theorem jjh:∀{ms:List Mode} {xs:List SV} {r:List (Option DV)} {st st1 st':St},st'.h=st.h→given st ms xs=some (r,st1)→∃st1',given st' ms xs=some (r,st1')∧Sim st st1 st' st1'
 | [],xs,r,st,st1,st',hh,h=>by
  cases xs with
  | nil=>simp only [given,Option.some.injEq,Prod.mk.injEq] at h;obtain ⟨rfl,rfl⟩:=h;exact ⟨st',rfl,.refl hh⟩
  | cons x xs=>simp [given] at h
 | m :: ms,[],r,st,st1,st',hh,h=>by cases m<;>simp [given] at h
 | m :: ms,x :: xs,r,st,st1,st',hh,h=>by
  by_cases ho:∃ks,m=.own ks
  ·obtain ⟨ks,rfl⟩:=ho
   simp only [given] at h
   split at h
   ·rename_i ds sta h1
    split at h
    ·rename_i r1 stb h2
     obtain ⟨sta',k1,k2⟩:=jcf hh h1
     obtain ⟨stb',k3,k4⟩:=jjh k2.h h2
     simp only [given,k1,k3]
     split at h
     ·cases h;exact ⟨stb',rfl,k2.trans k4⟩
     ·cases h
      refine ⟨stb',?_,k2.trans k4⟩
      rename_i hna
      cases x<;>first | rfl | exact absurd rfl (hna _)
     ·cases h
    ·cases h
   ·cases h
  ·by_cases hp:(∃ks,m=.ptr ks)∧∃n off,x=.ptr n off
   ·obtain ⟨⟨ks,rfl⟩,n,off,rfl⟩:=hp
    simp only [given] at h
    split at h
    ·rename_i cs hb
     split at h
     ·rename_i hl
      split at h
      ·rename_i ds sta h1
       split at h
       ·rename_i r1 stb h2
        cases h
        obtain ⟨sta',k1,k2⟩:=jcf (st':={ st' with h:=hdel st'.h n }) (by rw [hh]) h1
        obtain ⟨stb',k3,k4⟩:=jjh k2.h h2
        refine ⟨stb',?_,((jcm (hdel st.h n) (hdel st'.h n) (by rw [hh])).trans k2).trans k4⟩
        simp only [given,hh,hb,if_pos hl]
        rw [hh] at k1
        simp only [k1,k3]
       ·cases h
      ·cases h
     ·cases h
    ·cases h
   ·have eq:∀s:St,given s (m :: ms) (x :: xs)=match given s ms xs with | some (r,st2)=>some (none :: r,st2) | none=>none:=fun s=>by
     cases m with
     | own ks=>exact absurd ⟨ks,rfl⟩ ho
     | ptr ks=>cases x<;>first | rfl | exact absurd ⟨⟨_,rfl⟩,_,_,rfl⟩ hp
     | _=>rfl
    rw [eq] at h
    split at h
    ·rename_i r1 stb h2
     cases h
     obtain ⟨stb',k3,k4⟩:=jjh hh h2
     exact ⟨stb',by rw [eq,k3],k4⟩
    ·cases h
theorem jss (hh:st'.h=st.h):∀(ms:List Mode) (xs:List SV) (r:List (Option DV)),lent st' ms xs r=lent st ms xs r
 | [],xs,r=>by cases xs<;>cases r<;>rfl
 | m :: ms,[],r=>by cases r<;>rfl
 | m :: ms,x :: xs,[]=>rfl
 | m :: ms,x :: xs,none :: r=>by simp only [lent,juu hh,jss hh ms xs r]
 | m :: ms,x :: xs,some d :: r=>by simp only [lent,jss hh ms xs r]
theorem jvj {h0:List (Nat × Blk)} {ns sus:List Nat}:∀{ms:List Mode} {xs:List SV} {os:List (List D)} {st st1 st':St},st'.h=st.h→backs h0 ns sus st ms xs os=some st1→∃st1',backs h0 ns sus st' ms xs os=some st1'∧Sim st st1 st' st1'
 | [],xs,os,st,st1,st',hh,h=>by
  cases xs<;>cases os<;>simp [backs] at h
  subst h
  exact ⟨st',rfl,.refl hh⟩
 | m :: ms,[],os,st,st1,st',hh,h=>by cases m<;>cases os<;>simp [backs] at h
 | m :: ms,x :: xs,os,st,st1,st',hh,h=>by
  by_cases hp:∃ks,m=.ptr ks
  ·obtain ⟨ks,rfl⟩:=hp
   by_cases hx:∃n off,x=.ptr n off
   ·obtain ⟨n,off,rfl⟩:=hx
    cases os with
    | nil=>simp [backs] at h
    | cons o os =>
     simp only [backs] at h
     split at h
     ·rename_i cs hb
      split at h
      ·rename_i hl
       split at h
       ·rename_i ws new hy
        split at h
        ·rename_i hf
         split at h
         ·rename_i sta ha
          obtain ⟨sta',k1,k2⟩:=jne hh ha
          obtain ⟨stb',k3,k4⟩:=jvj k2.h h
          exact ⟨stb',by simp only [backs,hb,if_pos hl,hy,hf,k1,if_true];exact k3,k2.trans k4⟩
         ·cases h
        ·cases h
       ·cases h
      ·cases h
     ·cases h
   ·cases x<;>first | exact absurd ⟨_,_,rfl⟩ hx | (simp [backs] at h)
  ·have hio:¬ ∃ks,m=.io ks:=fun ⟨ks,e⟩=>by subst e;simp [backs] at h
   have eq:∀s:St,backs h0 ns sus s (m :: ms) (x :: xs) os=backs h0 ns sus s ms xs os:=fun s=>by
    cases m with
    | ptr ks=>exact absurd ⟨ks,rfl⟩ hp
    | io ks=>exact absurd ⟨ks,rfl⟩ hio
    | _=>cases os<;>rfl
   rw [eq] at h
   obtain ⟨s',k1,k2⟩:=jvj hh h
   exact ⟨s',by rw [eq,k1],k2⟩
theorem jfv {s f:Nat} {b:Bool} {xs:List SV} (hh:st'.h=st.h) (h:callFn C st s f xs=some (b,v,st1)):∃st1',callFn C st' s f xs=some (b,v,st1')∧Sim st st1 st' st1':=by
 unfold callFn at h
 split at h
 ·rename_i hio
  obtain ⟨h2,_,rfl,_⟩:=jsj h
  exact ⟨{ st' with h:=h2 },by unfold callFn;rw [if_pos hio];exact jzy hh h,jcm _ _ rfl⟩
 rename_i hio
 split at h
 ·rename_i r sta h1
  obtain ⟨sta',a1,a2⟩:=jjh hh h1
  split at h
  ·rename_i ds h2
   split at h
   ·rename_i ok rs outs h3
    split at h
    ·rename_i stb h4
     obtain ⟨stb',b1,b2⟩:=jvj a2.h h4
     have hl:=jss a2.h (C.sig f).ms xs r
     split at h
     ·rename_i hr;cases h;exact ⟨stb',by simp only [callFn,if_neg hio,a1,hl,h2,h3,hh,a2.h,b1,hr],a2.trans b2⟩
     ·rename_i hr
      split at h
      ·rename_i ht
       split at h
       ·rename_i ha
        cases h
        obtain ⟨c',c1,c2⟩:=jne b2.h ha
        exact ⟨c',by simp only [callFn,if_neg hio,a1,hl,h2,h3,hh,a2.h,b1,hr,ht,c1],(a2.trans b2).trans c2⟩
       ·cases h
      ·cases h
     ·rename_i hr
      split at h
      ·rename_i bb hlb
       split at h
       ·rename_i hin
        cases h
        exact ⟨stb',by simp only [callFn,if_neg hio,a1,hl,h2,h3,hh,a2.h,b1,hr,hlb,hin,if_true],a2.trans b2⟩
       ·rename_i hin
        split at h
        ·rename_i ht
         split at h
         ·rename_i ha
          cases h
          obtain ⟨c',c1,c2⟩:=jne b2.h ha
          exact ⟨c',by simp only [callFn,if_neg hio,a1,hl,h2,h3,hh,a2.h,b1,hr,hlb,if_neg hin,ht,c1],(a2.trans b2).trans c2⟩
         ·cases h
        ·cases h
      ·cases h
     ·rename_i hr
      split at h
      ·rename_i ht
       split at h
       ·rename_i ha
        cases h
        obtain ⟨c',c1,c2⟩:=jne b2.h ha
        exact ⟨c',by simp only [callFn,if_neg hio,a1,hl,h2,h3,hh,a2.h,b1,hr,ht,c1],(a2.trans b2).trans c2⟩
       ·cases h
      ·cases h
     ·cases h
    ·cases h
  ·cases h
 ·cases h
end Go.Den

/- jpl. -/
namespace Go.Den
open Go
variable {C:Ctx} {st st' st1 st1' st2 st2':St} {p:Path} {op:Op} {v:SV}

theorem jls (C:Ctx) (p:Path) (t:Nat):∀(ns:List Nat) (m m':List SV) (l l':List (Nat × Path × Bool × SV)) (h h' k k':List (Nat × Blk)),gt C ⟨m',l',h'⟩ p t=gt C ⟨m,l,h⟩ p t→gt C ⟨jva ns m',jpa ns l',k'⟩ p t=gt C ⟨jva ns m,jpa ns l,k⟩ p t
 | [],m,m',l,l',h,h',k,k',e=>e
 | n :: ns,m,m',l,l',h,h',k,k',e=>by
  have one:∀(m:List SV) (l:List (Nat × Path × Bool × SV)) (h k:List (Nat × Blk)),gt C ⟨killM n m,killL n l,k⟩ p t=killV n (gt C ⟨m,l,h⟩ p t):=fun m l h k=>by
   unfold gt
   simp only [jcb,jdc]
   cases lk l t with
   | none=>rfl
   | some e =>
    obtain ⟨q,c,x⟩:=e
    simp only [Option.map_some]
    split<;>rfl
  exact jls C p t ns _ _ _ _ h h' k k' (by rw [one m' l' h' h',one m l h h,e])
theorem gt_sim {t:Nat} (A:Sim st st1 st' st1') (e:gt C st' p t=gt C st p t):gt C st1' p t=gt C st1 p t:=by
 obtain ⟨ns,a1,a2,a3,a4,_⟩:=A
 have:=jls C p t ns st.m st'.m st.l st'.l st.h st'.h st1.h st1'.h e
 rw [←a1,←a2,←a3,←a4] at this
 exact this
theorem jnw {x:Operand} (hA:∀t,x=.tmp t→gt C st' p t=gt C st p t):ev C st' p x=ev C st p x:=by
 cases x with
 | tmp t=>exact hA t rfl
 | _=>rfl
theorem jrv {zs:List D} {x:SV} {ok:Bool} {ys:List (List D)} (hh:st'.h=st.h) (h:source zs st x=some (ok,ys,st1)):∃st1',source zs st' x=some (ok,ys,st1')∧Sim st st1 st' st1':=by
 unfold source at h
 split at h
 ·rename_i n
  split at h
  ·rename_i hr
   split at h
   ·rename_i hs
    split at h
    ·rename_i hf;cases h;exact ⟨st',by simp only [source,hh,hr,if_pos hs,if_pos hf],.refl hh⟩
    ·rename_i hf;cases h;exact ⟨{ kill st' n with h:=hdel (killH n st'.h) n },by simp only [source,hh,hr,if_pos hs,if_neg hf],jig _ _ _ (by rw [hh])⟩
   ·cases h
  ·cases h
 ·split at h
  ·rename_i hf;cases h;exact ⟨st',by simp only [source,if_pos hf],.refl hh⟩
  ·cases h
 ·cases h;exact ⟨st',rfl,.refl hh⟩
 ·cases h
theorem jjn {sz:Nat}:∀{parts:List (Nat × Operand)} {k:Nat} {rows:List (List D)} {st st1 st':St},st'.h=st.h→(∀q∈parts,∀t,q.2=.tmp t→gt C st' [] t=gt C st [] t)→rowsOf C sz parts k st=some (rows,st1)→∃st1',rowsOf C sz parts k st'=some (rows,st1')∧Sim st st1 st' st1'
 | [],k,rows,st,st1,st',hh,hA,h=>by simp only [rowsOf,Option.some.injEq,Prod.mk.injEq] at h;obtain ⟨rfl,rfl⟩:=h;exact ⟨st',rfl,.refl hh⟩
 | (i,x) :: r,k,rows,st,st1,st',hh,hA,h=>by
  simp only [rowsOf] at h
  split at h
  ·rename_i hi
   split at h
   ·rename_i c sta h1
    split at h
    ·rename_i hc
     split at h
     ·rename_i cs stb h2
      cases h
      obtain ⟨sta',k1,k2⟩:=jyj hh h1
      obtain ⟨stb',k3,k4⟩:=jjn k2.h (fun q hq t ht=>gt_sim k2 (hA q (by simp [hq]) t ht)) h2
      refine ⟨stb',?_,k2.trans k4⟩
      simp only [rowsOf,if_pos hi]
      rw [jnw (hA (i,x) (by simp)),k1]
      simp only [if_pos hc,k3]
     ·cases h
    ·cases h
   ·cases h
  ·cases h
theorem jtw {t:TypeId} {p x:SV} {b:Bool} (hh:st'.h=st.h) (h:store C st t p x=some (b,st1)):∃st1',store C st' t p x=some (b,st1')∧Sim st st1 st' st1':=by
 unfold store at h
 split at h
 ·rename_i hf
  split at h
  ·rename_i n off
   split at h
   ·rename_i cs hb
    split at h
    ·rename_i hl
     cases h
     exact ⟨{ st' with h:=hset st'.h n (.box (setRange cs off (cellsOf x))) },by simp only [store,if_pos hf,hh,hb,if_pos hl],jcm _ _ (by rw [hh])⟩
    ·cases h
   ·cases h
  ·rename_i n i off
   split at h
   ·rename_i xs sta h1
    split at h
    ·rename_i e sz rs hb
     cases h
     obtain ⟨sta',k1,k2⟩:=jyj hh h1
     exact ⟨{ sta' with h:=hset sta'.h n (.row e sz (rs.modify i fun r=>r.take off++xs++r.drop (off+xs.length))) },by simp only [store,if_pos hf,k1,k2.h,hb],k2.trans (jcm _ _ (by rw [k2.h]))⟩
    ·cases h
   ·cases h
  ·cases h
 ·cases h
theorem jop {el n:Nat} {ok:List (List D)→Bool} {f:List (List D)→List (List D)} {b:Bool} (hh:st'.h=st.h) (h:cut C st el n ok f=some (b,v,st1)):∃st1',cut C st' el n ok f=some (b,v,st1')∧Sim st st1 st' st1':=by
 unfold cut at h
 split at h
 ·rename_i zs e sz xs hz hr
  split at h
  ·rename_i hs
   cases h
   exact ⟨{ kill st' n with h:=hset (killH n st'.h) n (.row e sz (f xs)) },by simp only [cut,hz,hh,hr,if_pos hs],jig _ _ _ (by rw [hh])⟩
  ·cases h
 ·cases h

theorem jqc {xs:List (Nat × Blk)} {x:Bool × SV} {r:Bool × SV × St} (hh:st'.h=st.h) (h:((adds st xs).map fun st2=>(x.1,x.2,st2))=some r):∃st2 st2',r=(x.1,x.2,st2)∧adds st xs=some st2∧adds st' xs=some st2'∧Sim st st2 st' st2':=by
 rw [Option.map_eq_some_iff] at h
 obtain ⟨st2,h1,h2⟩:=h
 obtain ⟨st2',k1,k2⟩:=jne hh h1
 exact ⟨st2,st2',h2.symm,h1,k1,k2⟩
theorem jpl {s:Nat} {b:Bool} (hh:st'.h=st.h) (hA:∀t,Operand.tmp t∈op.operands.toList→gt C st' [] t=gt C st [] t) (h:heavy C st s op=some (b,v,st1)):∃st1',heavy C st' s op=some (b,v,st1')∧Sim st st1 st' st1':=by
 have hev:∀x∈op.operands.toList,ev C st' [] x=ev C st [] x:=fun x hx=>jnw fun t ht=>hA t (ht ▸ hx)
 cases op
 case alloc t =>
  simp only [heavy] at h
  split at h
  ·rename_i zs hz
   obtain ⟨st2,st2',e,_,k1,k2⟩:=jqc (x:=(true,.ptr (nm s 0) 0)) hh h
   cases e
   exact ⟨st2',by simp only [heavy,hz,k1,Option.map_some],k2⟩
  ·cases h
 case box t x =>
  have hx:=hev x (by simp [Op.operands])
  simp only [heavy] at h
  split at h
  ·rename_i hf
   obtain ⟨st2,st2',e,_,k1,k2⟩:=jqc (x:=(true,.ptr (nm s 0) 0)) hh h
   cases e
   exact ⟨st2',by simp only [heavy,hx,if_pos hf,k1,Option.map_some],k2⟩
  ·cases h
 case buildSlice t n parts =>
  simp only [heavy] at h
  split at h
  ·rename_i el ht
   split at h
   ·rename_i zs hz
    split at h
    ·rename_i rows sta hr
     split at h
     ·rename_i hn
      obtain ⟨sta',a1,a2⟩:=jjn hh (fun q hq t ht=>hA t (by simp only [Op.operands,List.mem_map];exact ⟨q,hq,ht⟩)) hr
      obtain ⟨st2,st2',e,_,k1,k2⟩:=jqc (x:=(true,.own (nm s 0))) a2.h h
      cases e
      exact ⟨st2',by simp only [heavy,ht,hz,a1,if_pos hn,k1,Option.map_some],a2.trans k2⟩
     ·cases h
    ·cases h
   ·cases h
  ·cases h
 case makeSlice t x y =>
  have hx:=hev x (by simp [Op.operands])
  have hy:=hev y (by simp [Op.operands])
  simp only [heavy] at h
  split at h
  ·rename_i el kx k ky k' ht h1 h2
   split at h
   ·rename_i hsm
    split at h
    ·rename_i zs hz
     obtain ⟨st2,st2',e,_,k1,k2⟩:=jqc (x:=(decide (0≤k∧k≤lim∧k'=k),.own (nm s 0))) hh h
     cases e
     exact ⟨st2',by simp only [heavy,ht,hx,hy,h1,h2,if_pos hsm,hz,k1,Option.map_some],k2⟩
    ·cases h
   ·cases h
  ·cases h
 case store t p x =>
  simp only [heavy] at h
  rw [Option.map_eq_some_iff] at h
  obtain ⟨⟨b2,st2⟩,h1,h2⟩:=h
  cases h2
  obtain ⟨st2',k1,k2⟩:=jtw hh h1
  exact ⟨st2',by simp only [heavy,hev p (by simp [Op.operands]),hev x (by simp [Op.operands]),k1,Option.map_some],k2⟩
 case slice t x lo hi mx =>
  have hx:=hev x (by simp [Op.operands])
  have m1:lo.map (ev C st' [])=lo.map (ev C st []):=by cases lo with | none=>rfl | some y=>simp [hev y (by simp [Op.operands])]
  have m2:hi.map (ev C st' [])=hi.map (ev C st []):=by cases hi with | none=>rfl | some y=>simp [hev y (by simp [Op.operands])]
  have m3:mx.map (ev C st' [])=mx.map (ev C st []):=by cases mx with | none=>rfl | some y=>simp [hev y (by simp [Op.operands])]
  simp only [heavy] at h ⊢
  rw [hx,m1,m2,m3]
  split at h
  ·rename_i h1 h2 h3 h4 h5
   obtain ⟨s',k1,k2⟩:=jop hh h
   exact ⟨s',by simp only [h1,h2,h3,h4,h5,k1],k2⟩
  ·rename_i h1 h2 h3 h4 h5
   obtain ⟨s',k1,k2⟩:=jop hh h
   exact ⟨s',by simp only [h1,h2,h3,h4,h5,k1],k2⟩
  ·rename_i h1 h2 h3 h4 h5
   obtain ⟨s',k1,k2⟩:=jop hh h
   exact ⟨s',by simp only [h1,h2,h3,h4,h5,k1],k2⟩
  ·cases h
 case call c =>
  obtain ⟨callee,args,ts⟩:=c
  have he:evs C st' [] args.toList=evs C st [] args.toList:=jbc fun x hx=>hev x (by simp [Op.operands,Call.operands];cases callee<;>simp<;>first | exact .inr (by simpa using hx) | simpa using hx)
  simp only [heavy] at h ⊢
  split at h
  ·rw [he]
   split at h
   ·rename_i t t' x y hts hxy
    split at h
    ·rename_i el el' ht ht'
     split at h
     ·rename_i hsm
      split at h
      ·rename_i zs hz
       split at h
       ·rename_i ok ys sta hs
        obtain ⟨sta',a1,a2⟩:=jrv hh hs
        split at h
        ·rename_i n
         split at h
         ·rename_i e sz xs hr
          split at h
          ·rename_i hes
           cases h
           exact ⟨{ kill sta' n with h:=hset (killH n sta'.h) n (.row e sz (xs++ys)) },by simp only [hts,hxy,ht,ht',if_pos hsm,hz,a1,a2.h,hr,if_pos hes],a2.trans (jig _ _ _ (by rw [a2.h]))⟩
          ·cases h
         ·cases h
        ·obtain ⟨st2,st2',e,_,k1,k2⟩:=jqc (x:=(ok&&decide (ys.length≤lim),.own (nm s 0))) a2.h h
         cases e
         exact ⟨st2',by simp only [hts,hxy,ht,ht',if_pos hsm,hz,a1,k1,Option.map_some],a2.trans k2⟩
        ·cases h
       ·cases h
      ·cases h
     ·cases h
    ·cases h
   ·cases h
  ·rw [he]
   obtain ⟨s',k1,k2⟩:=jfv hh h
   exact ⟨s',by simp only [k1],k2⟩
  ·cases h
 all_goals (simp [heavy] at h)
end Go.Den
