/- The evaluator of Go code over plain data, and its soundness: part 8 of 9. -/
import Derived.Test.YtbmgnecedmcneaaGreatDm7
import Derived.ReadAgain
import Derived.ChangeArms
import Derived.RowKit3
import Derived.RowKit
import Derived.SizedLaws
set_option linter.unusedVariables false
set_option linter.unusedSimpArgs false
/- What a function gives back. -/
namespace Go.Den
open Go
variable {C:Ctx} {R:Rt} {G G0 G1:Gh} {st st1 st2:St} {a:Act} {w w':World} {o:Oper} {v:SV}

theorem jzs:∀{vs:List SV} {xs:List D},scDs vs=some xs→xs.length=vs.length∧∀(j:Nat) x,xs[j]? = some x→vs[j]? = some (.d x)∧isSc x=true
 | [],xs,h=>by simp [scDs] at h;subst h;simp
 | v :: vs,xs,h=>by
  simp only [scDs] at h
  split at h
  ·rename_i x ys h1 h2
   cases h
   obtain ⟨h3,h4⟩:=jzs h2
   refine ⟨by simp [h3],fun j y hj=>?_⟩
   cases j with
   | zero =>
    simp at hj;subst hj
    cases v<;>simp only [scD] at h1<;>first | cases h1 | skip
    split at h1
    ·rename_i hs;cases h1;exact ⟨rfl,hs⟩
    ·cases h1
   | succ j=>simpa using h4 j y (by simpa using hj)
  ·cases h
theorem jwh:∀{vs:List SV} {rs:List DV} {rv:List Value},resSc vs=some rs→jca R G st.h vs rv→ScsK R rs rv
 | [],rs,rv,h,hv=>by
  simp only [resSc,Option.some.injEq] at h
  subst h
  have:rv=[]:=List.eq_nil_of_length_eq_zero (by simpa using hv.1)
  subst this
  trivial
 | v :: vs,rs,rv,h,hv=>by
  obtain ⟨u,rv',rfl,h1,hv'⟩:=hv.tail
  simp only [resSc] at h
  split at h
  ·rename_i xs hxs
   split at h
   ·rename_i x r hx hr
    cases h
    obtain ⟨h2,h3⟩:=jzs hxs
    refine ⟨?_,jwh hr hv'⟩
    by_cases hag:∃cs,v=.agg cs
    ·obtain ⟨cs,rfl⟩:=hag
     obtain ⟨us,e1,e2,e3⟩:=h1
     simp only [dvOf,Option.some.injEq] at hx
     subst hx
     refine ⟨us,e1,by rw [e2,h2];rfl,fun j d hj=>?_⟩
     obtain ⟨k1,k2⟩:=h3 j d hj
     obtain ⟨q,q1,q2,q3⟩:=e3 j _ k1
     exact ⟨k2,q,q1,q3⟩
    ·have hc:∃d,x=.one d∧xs=[d]:=by
      cases v<;>first | exact absurd ⟨_,rfl⟩ hag | (simp [dvOf] at hx;done) | skip
      all_goals
       match xs,hx with
       | [d],hx=>simp only [dvOf,Option.some.injEq] at hx;exact ⟨d,hx.symm,rfl⟩
     obtain ⟨d,rfl,rfl⟩:=hc
     obtain ⟨k1,k2⟩:=h3 0 d rfl
     have hv:v=.d d:=by
      cases v<;>first | exact absurd ⟨_,rfl⟩ hag | (simp [cellsOf] at k1;done) | (simp [cellsOf] at k1;rw [k1])
     subst hv
     exact ⟨k2,h1⟩
   ·cases h
  ·cases h

theorem jai {h0:List (Nat × Blk)}:∀(kss:List (List (Option (Nat × Nat)))) (vs:List SV) (rv:List Value) (st:St) (G:Gh) (rs:List DV) (st':St),Inv C R G st a w→Gle G G0→Has G0 h0 G st.h→(∀ks∈kss,KOk C.P ks)→jca R G0 h0 vs rv→resFr st kss vs=some (rs,st') →
  ∃G' Ξ,Inv C R G' st' a w∧Gle G' G∧Has G0 h0 G' st'.h∧jxf C.P R w kss rs rv Ξ∧(∀i j k,Ξ i j k→k < w.heap.size∧(R.L k∨R.w0.heap.size≤k)∧∀lo hi,¬ R.LB k lo hi)∧jic Ξ∧(∀i j k,Ξ i j k→∃n,G.live n∧G.φ n k)∧(∀i j k n,Ξ i j k→G'.live n→G'.φ n k→False)
 | [],vs,rv,st,G,rs,st',H,hG,hH,hk,hv,h=>by
  cases vs with
  | cons v vs=>simp [resFr] at h
  | nil =>
   simp only [resFr,Option.some.injEq,Prod.mk.injEq] at h
   obtain ⟨rfl,rfl⟩:=h
   have:rv=[]:=List.eq_nil_of_length_eq_zero (by simpa using hv.1)
   subst this
   exact ⟨G,fun _ _ _=>False,H,Gle.refl G,hH,trivial,fun _ _ _ h=>h.elim,fun _ _ _ _ _ h=>h.elim,fun _ _ _ h=>h.elim,fun _ _ _ _ h=>h.elim⟩
 | ks :: kss,vs,rv,st,G,rs,st',H,hG,hH,hk,hv,h=>by
  cases vs with
  | nil=>simp [resFr] at h
  | cons v vs =>
   obtain ⟨u,rv',rfl,h1,hv'⟩:=hv.tail
   simp only [resFr] at h
   split at h
   ·rename_i xs st1 hgive
    split at h
    ·rename_i x r st2 hx hr
     cases h
     unfold giveK at hgive
     split at hgive
     ·rename_i ys st3 htk
      split at hgive
      ·rename_i hsc
       cases hgive
       have hok:=jks htk
       obtain ⟨c1,c2⟩:=jsb h1 hok
       obtain ⟨G1,θ,i1,i2,i8,i3,i4,i5,i6,i7,i9,i10,i11⟩:=jrb ks (cellsOf v) u.cells.toList st G xs st1 H hG hH (fun e sz hm=>hk ks (by simp) e sz hm) ⟨by simpa using c1,fun j y hj=>by obtain ⟨q,k1,k2,k3⟩:=c2 j y hj;exact ⟨q,by simpa using k1,k2,k3⟩⟩ htk
       obtain ⟨G',Ξ,j1,j2,j3,j4,j5,j6,j7,j8⟩:=jai kss vs rv' st1 G1 r st' i1 (i2.trans hG) i8 (fun ks' hm=>hk ks' (by simp [hm])) hv' hr
       refine ⟨G',jij θ Ξ,j1,j2.trans i2,j3,⟨?_,j4⟩,fun i j k hh=>?_,fun i j i' j' k hh hh'=>?_,fun i j k hh=>?_,fun i j k n hh hn hφ=>?_⟩
       ·by_cases hag:∃cs,v=.agg cs
        ·obtain ⟨cs,rfl⟩:=hag
         obtain ⟨us,rfl,_⟩:=jvd h1
         simp only [dvOf,Option.some.injEq] at hx
         subst hx
         have i3':KC C.P R w ks xs us θ:=by simpa [Value.cells] using i3
         exact ⟨⟨us,rfl,i3'⟩,hsc⟩
        ·have hna:∀cs,v≠.agg cs:=fun cs e=>hag ⟨cs,e⟩
         obtain ⟨o1,o2⟩:=jzm h1 hok hna
         rw [jih o1] at i3
         have hc:∃d,x=.one d∧xs=[d]:=by
          cases v<;>first | exact absurd rfl (hna _) | (simp [dvOf] at hx;done) | skip
          all_goals
           match xs,hx with
           | [d],hx=>simp only [dvOf,Option.some.injEq] at hx;exact ⟨d,hx.symm,rfl⟩
         obtain ⟨d,rfl,rfl⟩:=hc
         exact ⟨i3,hsc⟩
       ·cases i with
        | zero=>exact i4 j k hh
        | succ i=>exact j5 i j k hh
       ·have cross:∀{i j j':Nat},θ j k→Ξ i j' k→False:=fun e1 e2=>by
         obtain ⟨n,n1,n2⟩:=j7 _ _ _ e2
         exact i7 _ k n e1 n1 id n2
        cases i with
        | zero =>
         cases i' with
         | zero=>exact ⟨rfl,i5 j j' k hh hh'⟩
         | succ i'=>exact (cross hh hh').elim
        | succ i =>
         cases i' with
         | zero=>exact (cross hh' hh).elim
         | succ i'=>obtain ⟨e1,e2⟩:=j6 i j i' j' k hh hh';exact ⟨by omega,e2⟩
       ·cases i with
        | zero=>obtain ⟨n,n1,n2⟩:=i6 j k hh;exact ⟨n,n1.1,n2⟩
        | succ i=>obtain ⟨n,n1,n2⟩:=j7 i j k hh;exact ⟨n,i2.1 n n1,by rw [←i2.2.2.2];exact n2⟩
       ·cases i with
        | zero=>exact i7 j k n hh (j2.1 n hn) id (by rw [←j2.2.2.2];exact hφ)
        | succ i=>exact j8 i j k n hh hn hφ
      ·cases hgive
     ·cases hgive
    ·cases h
   ·cases h

def Places (G:Gh):Nat→List Mode→List Value→Prop
 | s,.ptr _ :: ms,v :: vs=>v=.pointer (some ⟨(G.base (nm s 0)).1,(G.base (nm s 0)).2,none⟩)∧Places G (s+1) ms vs
 | s,_ :: ms,_ :: vs=>Places G (s+1) ms vs
 | _,[],[]=>True
 | _,_,_=>False
def jqn (R:Rt):Nat→List Mode→Prop
 | s,.ptr _ :: ms=>(∃b,R.fix (nm s 0)=some b)∧jqn R (s+1) ms
 | s,_ :: ms=>jqn R (s+1) ms
 | _,[]=>True
theorem jwl {n:Nat} {b:Nat × Nat} (H:Inv C R G st a w) (hf:R.fix n=some b):G.live n∧G.φ n (G.base n).1∧∃cs,hlk st.h n=some (.box cs):=by
 obtain ⟨h1,_,h3⟩:=H.B.fix n b hf
 obtain ⟨cs,hc⟩:=h3 id
 obtain ⟨b,hb,hbr⟩:=H.B.rel n h1 id
 rw [hc] at hb;cases hb
 obtain ⟨cur,e,r1,r2,_⟩:=hbr
 exact ⟨h1,r2,cs,hc⟩
theorem nm_inj {a b:Nat} (h:nm a 0=nm b 0):a=b:=by unfold nm at h;omega
theorem jvi {G':Gh} (hb:G'.base=G.base):∀(ms:List Mode) (s:Nat) (vs:List Value),Places G s ms vs→Places G' s ms vs
 | [],s,vs,h=>by cases vs<;>exact h
 | m :: ms,s,vs,h=>by
  cases vs with
  | nil=>cases m<;>exact h
  | cons v vs =>
   cases m with
   | ptr ks=>exact ⟨by rw [hb];exact h.1,jvi hb ms _ vs h.2⟩
   | _=>exact jvi hb ms _ vs h
theorem bxOk_get {n:Nat}:∀{j0:Nat} {ks:List (Option (Nat × Nat))} {cs:List SV},bxOk n j0 ks cs=true→∀(j:Nat) c,ks[j]? = some none→cs[j]? = some c→(∃x,c=.d x∧isSc x=true)∨∃x,c=.bx n (j0+j) x
 | j0,[],cs,_,j,c,h,_=>by simp at h
 | j0,k :: ks,[],_,j,c,_,h=>by simp at h
 | j0,k :: ks,y :: cs,hb,0,c,h,hc=>by
  simp at h hc
  subst h hc
  cases y<;>simp [bxOk] at hb
  ·exact .inl ⟨_,rfl,hb.1⟩
  ·obtain ⟨⟨rfl,rfl⟩,_⟩:=hb;exact .inr ⟨_,rfl⟩
 | j0,k :: ks,y :: cs,hb,j+1,c,h,hc=>by
  have hb':bxOk n (j0+1) ks cs=true:=by
   cases k with
   | some p=>simpa [bxOk] using hb
   | none=>cases y<;>simp [bxOk] at hb<;>first | exact hb.2 | exact hb
  rcases bxOk_get hb' j c (by simpa using h) (by simpa using hc) with h1 | ⟨x,h1⟩
  ·exact .inl h1
  ·exact .inr ⟨x,by rw [h1,show j0+1+j=j0+(j+1) by omega]⟩
theorem takeK_none:∀{ks:List (Option (Nat × Nat))} {cs:List SV} {st st':St} {ds:List D},takeK st ks cs=some (ds,st')→∀(j:Nat) c,ks[j]? = some none→cs[j]? = some c→∃d,ds[j]? = some d∧(c=.d d∨∃m i,c=.bx m i d)
 | [],cs,st,st',ds,_,j,c,h,_=>by simp at h
 | k :: ks,[],st,st',ds,_,j,c,_,h=>by simp at h
 | none :: ks,y :: cs,st,st',ds,hk,j,c,h,hc=>by
  cases y<;>simp only [takeK] at hk<;>first | cases hk | skip
  all_goals
   split at hk
   ·rename_i x st2 heq
    cases hk
    cases j with
    | zero=>simp at hc;subst hc;exact ⟨_,rfl,by simp⟩
    | succ j =>
     obtain ⟨d,h1,h2⟩:=takeK_none heq j c (by simpa using h) (by simpa using hc)
     exact ⟨d,by simpa using h1,h2⟩
   ·cases hk
 | some (e,sz) :: ks,y :: cs,st,st',ds,hk,j,c,h,hc=>by
  cases j with
  | zero=>simp at h
  | succ j =>
   cases y<;>simp only [takeK] at hk<;>first | cases hk | skip
   ·split at hk
    ·rename_i x st2 heq
     cases hk
     obtain ⟨d,h1,h2⟩:=takeK_none heq j c (by simpa using h) (by simpa using hc)
     exact ⟨d,by simpa using h1,h2⟩
    ·cases hk
   ·split at hk
    ·split at hk
     ·split at hk
      ·rename_i x st2 heq
       cases hk
       obtain ⟨d,h1,h2⟩:=takeK_none heq j c (by simpa using h) (by simpa using hc)
       exact ⟨d,by simpa using h1,h2⟩
      ·cases hk
     ·cases hk
    ·cases hk
theorem jyg:∀(ms:List Mode) (s:Nat) (vs:List Value) (st:St) (G:Gh) (os:List (List D)) (st':St),Inv C R G st a w→(∀ks,Mode.ptr ks∈ms→KOk C.P ks)→jqn R s ms→Places G s ms vs→outsOf s st ms=some (os,st') →
  ∃G' Ω,Inv C R G' st' a w∧Gle G' G∧jyc C.P R w ms vs os Ω∧(∀i j k,Ω i j k→k < w.heap.size∧(R.L k∨R.w0.heap.size≤k))∧(∀i j k,Ω i (j+1) k→∀lo hi,¬ R.LB k lo hi)∧jic Ω∧(∀i j k,Ω i j k→∃n,G.live n∧G.φ n k)∧(∀i j k n,Ω i (j+1) k→G'.live n→G'.φ n k→False)∧(∀i k,Ω i 0 k→k=(G.base (nm (s+i) 0)).1∧∃b,R.fix (nm (s+i) 0)=some b)
 | [],s,vs,st,G,os,st',H,hk,hf,hp,h=>by
  simp only [outsOf,Option.some.injEq,Prod.mk.injEq] at h
  obtain ⟨rfl,rfl⟩:=h
  cases vs with
  | cons v vs=>exact hp.elim
  | nil=>exact ⟨G,fun _ _ _=>False,H,Gle.refl G,trivial,fun _ _ _ h=>h.elim,fun _ _ _ h=>h.elim,fun _ _ _ _ _ h=>h.elim,fun _ _ _ h=>h.elim,fun _ _ _ _ h=>h.elim,fun _ _ h=>h.elim⟩
 | m :: ms,s,[],st,G,os,st',H,hk,hf,hp,h=>by cases m<;>exact hp.elim
 | m :: ms,s,v :: vs,st,G,os,st',H,hk,hf,hp,h=>by
  by_cases hpt:∃ks,m=.ptr ks
  ·obtain ⟨ks,rfl⟩:=hpt
   obtain ⟨⟨b,hfb⟩,hf'⟩:=hf
   obtain ⟨hv,hp'⟩:=hp
   simp only [outsOf] at h
   split at h
   ·rename_i cs hcs
    split at h
    ·rename_i x st1 htk
     split at h
     ·rename_i r st2 hr
      cases h
      obtain ⟨hl,_,_⟩:=jwl H hfb
      obtain ⟨bb,hb',hbr⟩:=H.B.rel _ hl id
      rw [hcs] at hb';cases hb'
      obtain ⟨cur,e,r1,r2,r3,r4,r5⟩:=hbr
      have hus:jla R G st.h cs ((cur.toList.drop (G.base (nm s 0)).2).take cs.length):=by
       refine ⟨by simp;omega,fun j y hj=>?_⟩
       have hjl:j < cs.length:=(List.getElem?_eq_some_iff.1 hj).1
       obtain ⟨q,k2,k3,k4⟩:=r5 j y hj
       refine ⟨q,?_,k3,k4⟩
       rw [List.getElem?_take,if_pos hjl,List.getElem?_drop]
       simpa using k2
      have htk0:=htk
      split at htk
      case isFalse=>cases htk
      rename_i hbx
      have hbox':=bxOk_get hbx
      have htkn:=takeK_none htk
      obtain ⟨G1,θ,i1,i2,i8,i3,i4,i5,i6,i7,i9,i10,i11⟩:=jrb (G0:=G) (h0:=st.h) ks cs _ st G x st1 H (Gle.refl G) (Has.refl _ _) (fun e sz hm=>hk ks (by simp) e sz hm) hus htk
      obtain ⟨G',Ω,j1,j2,j3,j4,j5,j6,j7,j8,j9⟩:=jyg ms (s+1) vs st1 G1 r st' i1 (fun ks' hm=>hk ks' (by simp [hm])) hf' (jvi i2.2.1 ms _ vs hp') hr
      have hxl:x.length=cs.length:=by rw [←i3.2.1,hus.1]
      obtain ⟨hl1,hφ1,_⟩:=jwl i1 hfb
      have hb1:(G1.base (nm s 0)).1=(G.base (nm s 0)).1:=by rw [i2.2.1]
      refine ⟨G',jij (behind θ (·=(G.base (nm s 0)).1)) Ω,j1,j2.trans i2,⟨⟨_,_,cur,e,_,hv,r1,rfl,by rw [hxl];exact r4,fun j u hj=>?_,i3,fun j d u f1 f2 f3 f4=>?_⟩,j3⟩,fun i j k hh=>?_,fun i j k hh=>?_,fun i j i' j' k hh hh'=>?_,fun i j k hh=>?_,fun i j k n hh hn hφ=>?_,fun i k hh=>?_⟩
      ·rw [List.getElem?_take] at hj
       split at hj
       ·rw [List.getElem?_drop] at hj;simpa using hj
       ·cases hj
      ·have hjc:j < cs.length:=by rw [←hxl];exact (List.getElem?_eq_some_iff.1 f2).1
       obtain ⟨d',g1,g2⟩:=htkn j cs[j] f1 (by simp)
       rw [f2] at g1;cases g1
       obtain ⟨q,k2,k3,k4⟩:=hus.2 j cs[j] (by simp)
       rw [f4] at k2;cases k2
       rcases hbox' j cs[j] f1 (by simp) with ⟨y,y1,y2⟩ | ⟨y,y1⟩
       ·rcases g2 with g2 | ⟨_,_,g2⟩
        ·rw [g2] at y1;cases y1;rw [f3] at y2;cases y2
        ·rw [g2] at y1;cases y1
       ·rw [y1] at k4
        obtain ⟨⟨b',z1,z2⟩,_⟩:=k4
        obtain ⟨_,z3,_⟩:=H.B.fix _ _ z1
        rw [z3,show j=0+j by omega]
        exact z2
      ·cases i with
       | zero =>
        cases j with
        | zero=>rw [show k=(G.base (nm s 0)).1 from hh];exact H.B.mine _ hl id _ r2
        | succ j=>exact ⟨(i4 j k hh).1,(i4 j k hh).2.1⟩
       | succ i=>exact j4 i j k hh
      ·cases i with
       | zero=>exact (i4 j k hh).2.2
       | succ i=>exact j5 i j k hh
      ·have boxrow:∀{j:Nat},k=(G.base (nm s 0)).1→θ j k→False:=fun e1 e2=>i7 _ k (nm s 0) e2 hl1 id (by rw [e1,←hb1];exact hφ1)
       have cross:∀{j i j':Nat},behind θ (·=(G.base (nm s 0)).1) j k→Ω i j' k→False:=fun {j i j'} e1 e2=>by
        cases j with
        | succ j =>
         obtain ⟨n,n1,n2⟩:=j7 _ _ _ e2
         exact i7 j k n e1 n1 id n2
        | zero =>
         have e1':k=(G.base (nm s 0)).1:=e1
         cases j' with
         | succ j' =>
          obtain ⟨hl2,hφ2,_⟩:=jwl j1 hfb
          refine j8 i j' k (nm s 0) e2 hl2 ?_
          rw [e1',←hb1,←j2.2.1];exact hφ2
         | zero =>
          obtain ⟨q1,b',q2⟩:=j9 i k e2
          obtain ⟨hl3,hφ3,_⟩:=jwl i1 q2
          refine i1.B.disj (nm s 0) (nm (s+1+i) 0) hl1 id hl3 id (fun e=>by have:=nm_inj e;omega) k ?_ ?_
          ·rw [e1',←hb1];exact hφ1
          ·rw [q1];exact hφ3
       cases i with
       | zero =>
        cases i' with
        | zero =>
         cases j with
         | zero =>
          cases j' with
          | zero=>exact ⟨rfl,rfl⟩
          | succ j'=>exact (boxrow hh hh').elim
         | succ j =>
          cases j' with
          | zero=>exact (boxrow hh' hh).elim
          | succ j'=>exact ⟨rfl,by rw [i5 j j' k hh hh']⟩
        | succ i'=>exact (cross hh hh').elim
       | succ i =>
        cases i' with
        | zero=>exact (cross hh' hh).elim
        | succ i'=>obtain ⟨e1,e2⟩:=j6 i j i' j' k hh hh';exact ⟨by omega,e2⟩
      ·cases i with
       | zero =>
        cases j with
        | zero=>exact ⟨nm s 0,hl,by rw [show k=(G.base (nm s 0)).1 from hh];exact r2⟩
        | succ j=>obtain ⟨n,n1,n2⟩:=i6 j k hh;exact ⟨n,n1.1,n2⟩
       | succ i=>obtain ⟨n,n1,n2⟩:=j7 i j k hh;exact ⟨n,i2.1 n n1,by rw [←i2.2.2.2];exact n2⟩
      ·cases i with
       | zero=>exact i7 j k n hh (j2.1 n hn) id (by rw [←j2.2.2.2];exact hφ)
       | succ i=>exact j8 i j k n hh hn hφ
      ·cases i with
       | zero=>exact ⟨hh,b,hfb⟩
       | succ i =>
        obtain ⟨q1,q2⟩:=j9 i k hh
        rw [show s+(i+1)=s+1+i by omega]
        exact ⟨by rw [q1,i2.2.1],q2⟩
     ·cases h
    ·cases h
   ·cases h
  ·have hio:¬ ∃ks,m=.io ks:=fun ⟨ks,e⟩=>by subst e;simp [outsOf] at h
   have hf':jqn R (s+1) ms:=by cases m<;>first | exact absurd ⟨_,rfl⟩ hpt | exact hf
   have hp':Places G (s+1) ms vs:=by cases m<;>first | exact absurd ⟨_,rfl⟩ hpt | exact hp
   have h':outsOf (s+1) st ms=some (os,st'):=by cases m<;>first | exact absurd ⟨_,rfl⟩ hpt | exact absurd ⟨_,rfl⟩ hio | (simpa [outsOf] using h)
   obtain ⟨G',Ω,j1,j2,j3,j4,j5,j6,j7,j8,j9⟩:=jyg ms (s+1) vs st G os st' H (fun ks' hm=>hk ks' (by simp [hm])) hf' hp' h'
   have hO:jyc C.P R w (m :: ms) (v :: vs) os (jij (fun _ _=>False) Ω):=by cases m<;>first | exact absurd ⟨_,rfl⟩ hpt | exact absurd ⟨_,rfl⟩ hio | (cases os<;>exact j3)
   refine ⟨G',jij (fun _ _=>False) Ω,j1,j2,hO,fun i j k hh=>?_,fun i j k hh=>?_,fun i j i' j' k hh hh'=>?_,fun i j k hh=>?_,fun i j k n hh=>?_,fun i k hh=>?_⟩
   ·cases i with | zero=>exact hh.elim | succ i=>exact j4 i j k hh
   ·cases i with | zero=>exact hh.elim | succ i=>exact j5 i j k hh
   ·cases i with
    | zero=>exact hh.elim
    | succ i=>cases i' with | zero=>exact hh'.elim | succ i'=>obtain ⟨e1,e2⟩:=j6 i j i' j' k hh hh';exact ⟨by omega,e2⟩
   ·cases i with | zero=>exact hh.elim | succ i=>exact j7 i j k hh
   ·cases i with | zero=>exact hh.elim | succ i=>exact j8 i j k n hh
   ·cases i with
    | zero=>exact hh.elim
    | succ i =>
     rw [show s+(i+1)=s+1+i by omega]
     exact j9 i k hh
end Go.Den

/- A function: what it is handed, what it gives back. -/
namespace Go.Den
open Go
variable {C:Ctx} {R:Rt} {G G0 G1:Gh} {st st1 st2:St} {a:Act} {w w':World} {o:Oper} {v:SV}

theorem jgk:∀{xs:List (Nat × Blk)} {st st1:St},adds st xs=some st1→(∀n b,hlk st.h n=some b→hlk st1.h n=some b)∧st1.m=st.m∧st1.l=st.l
 | [],st,st1,h=>by simp [adds] at h;subst h;exact ⟨fun _ _ h=>h,rfl,rfl⟩
 | (k,x) :: r,st,st1,h=>by
  simp only [adds] at h
  split at h
  ·cases h
  ·obtain ⟨h1,h2,h3⟩:=jgk h
   exact ⟨fun n b hb=>h1 n b (by show hlk (st.h++[(k,x)]) n=_;rw [jka,hb]),h2,h3⟩
def Born (G:Gh) (h:List (Nat × Blk)):Nat→List Mode→Prop
 | s,.ptr _ :: ms=>(G.live (nm s 0)∧∃cs,hlk h (nm s 0)=some (.box cs))∧Born G h (s+1) ms
 | s,_ :: ms=>Born G h (s+1) ms
 | _,[]=>True
theorem jev (hw:w=R.w0):∀(ms:List Mode) (s:Nat) (xs:List DV) (vs:List Value) (Θ:Nat→Nat→Nat→Prop) (svs:List SV) (h:List (Nat × Blk)) (st:St) (G:Gh) (st2:St),initP s ms xs=some (svs,h)→jwf C.P R ms xs vs Θ→Inv C R G st a w →
  (∀i j k,Θ i j k→k < w.heap.size∧R.L k)→(∀i j k,Θ i (j+1) k→∀lo hi,¬ R.LB k lo hi)→jic Θ→(∀i j k n,Θ i j k→G.live n→G.φ n k→False)→adds st h=some st2 →
  ∃G2,Inv C R G2 st2 a w∧(∀n,Same G st.h G2 st2.h n)∧jca R G2 st2.h svs vs∧Places G2 s ms vs∧Born G2 st2.h s ms:=by
 subst hw
 intro ms
 induction ms with
 | nil =>
  intro s xs vs Θ svs h st G st2 hi hA H hm hlb hap hsep ha
  cases xs with
  | cons x xs=>simp [initP] at hi
  | nil =>
   cases vs with
   | cons v vs=>exact hA.elim
   | nil =>
    simp only [initP,Option.some.injEq,Prod.mk.injEq] at hi
    obtain ⟨rfl,rfl⟩:=hi
    simp only [adds,Option.some.injEq] at ha
    subst ha
    exact ⟨G,H,Same.refl G st.h,⟨rfl,fun j x hj=>by simp at hj⟩,trivial,trivial⟩
 | cons m ms ih =>
  intro s xs vs Θ svs h st G st2 hi hA H hm hlb hap hsep ha
  cases xs with
  | nil=>cases m<;>simp [initP] at hi
  | cons x xs =>
   cases vs with
   | nil=>exact hA.elim
   | cons v vs =>
    obtain ⟨hA1,hA2⟩:=hA
    have apt:jic fun i=>Θ (i+1):=fun i j i' j' k h1 h2=>by obtain ⟨e1,e2⟩:=hap _ _ _ _ _ h1 h2;exact ⟨by omega,e2⟩
    -- the others, behind the first
    have tail:∀{st1:St} {G1:Gh} {sx:SV} {svs':List SV} {h':List (Nat × Blk)},initP (s+1) ms xs=some (svs',h')→Inv C R G1 st1 a R.w0→(∀n,Same G st.h G1 st1.h n)→VRel R G1 st1.h sx v→(∀i j k n,Θ (i+1) j k→G1.live n→G1.φ n k→False)→adds st1 h'=some st2 →
      ∃G2,Inv C R G2 st2 a R.w0∧(∀n,Same G st.h G2 st2.h n)∧(∀n,Same G1 st1.h G2 st2.h n)∧jca R G2 st2.h (sx :: svs') (v :: vs)∧Places G2 (s+1) ms vs∧Born G2 st2.h (s+1) ms:=by
     intro st1 G1 sx svs' h' hi' H1 hS hv hsep1 ha'
     obtain ⟨G2,j1,j2,j3,j4,j5⟩:=ih (s+1) xs vs (fun i=>Θ (i+1)) svs' h' st1 G1 st2 hi' hA2 H1 (fun i j k=>hm (i+1) j k) (fun i j k=>hlb (i+1) j k) apt hsep1 ha'
     refine ⟨G2,j1,fun n=>(hS n).trans (j2 n),j2,⟨by simp [j3.1],fun j y hj=>?_⟩,j4,j5⟩
     cases j with
     | zero=>simp at hj;subst hj;exact ⟨v,rfl,jxj j2 hv⟩
     | succ j=>simpa using j3.2 j y (by simpa using hj)
    have sepR:∀i j k n,Θ (i+1) j k→G.live n→G.φ n k→False:=fun i j k n=>hsep (i+1) j k n
    -- cells laid down first
    have laid:∀{ks:List (Option (Nat × Nat))} {ds:List D} {us:List Value} {c:List SV} {d:List (Nat × Blk)} {stA:St},layK (nmsF s 1 ks.length) ks ds=some (c,d)→KC C.P R R.w0 ks ds us (fun j=>Θ 0 (j+1))→adds st d=some stA →
      ∃GA,Inv C R GA stA a R.w0∧(∀n,Same G st.h GA stA.h n)∧jla R GA stA.h c us∧(∀i j k n,Θ (i+1) j k→GA.live n→GA.φ n k→False)∧∀k n,Θ 0 0 k→GA.live n→GA.φ n k→False:=by
     intro ks ds us c d stA hl hk hd
     obtain ⟨GA,i1,i2,i3,i4,i5,i6⟩:=jmd _ ks ds us (fun j=>Θ 0 (j+1)) c d G st stA hl H hk (fun j k h=>⟨(hm 0 (j+1) k h).1,.inl (hm 0 (j+1) k h).2,hlb 0 j k h⟩) (fun i j k h1 h2=>by have:=(hap _ _ _ _ _ h1 h2).2;omega) (fun j k n h h2 _ h3=>hsep 0 (j+1) k n h h2 h3) (fun _ _=>id) hd
     refine ⟨GA,i1,i2,i3,fun i j k n hh hn hφ=>?_,fun k n hh hn hφ=>?_⟩
     ·rcases i5 n k hn hφ with ⟨h1,h2⟩ | ⟨j',hj'⟩
      ·exact hsep (i+1) j k n hh h1 h2
      ·have:=(hap _ _ _ _ _ hh hj').1;omega
     ·rcases i5 n k hn hφ with ⟨h1,h2⟩ | ⟨j',hj'⟩
      ·exact hsep 0 0 k n hh h1 h2
      ·have:=(hap _ _ _ _ _ hh hj').2;omega
    cases m with
    | bor =>
     cases x with
     | ptr ds=>exact hA1.elim
     | one d =>
      simp only [initP] at hi
      split at hi
      ·rename_i svs' h' hi'
       cases hi
       obtain ⟨G2,j1,j2,_,j3,j4,j5⟩:=tail (sx:=.d d) hi' H (Same.refl G st.h) hA1 sepR ha
       exact ⟨G2,j1,j2,j3,j4,j5⟩
      ·cases hi
     | agg ds =>
      simp only [initP] at hi
      split at hi
      ·rename_i svs' h' hi'
       cases hi
       obtain ⟨us,e1,e2,e3⟩:=hA1
       obtain ⟨G2,j1,j2,_,j3,j4,j5⟩:=tail (sx:=.agg (ds.map .d)) hi' H (Same.refl G st.h) ⟨us,e1,by simp [e2],fun j y hj=>by
        rw [List.getElem?_map,Option.map_eq_some_iff] at hj
        obtain ⟨d,hd,rfl⟩:=hj
        obtain ⟨u,k1,k2⟩:=e3 j d hd
        exact ⟨u,k1,k2.one,k2⟩⟩ sepR ha
       exact ⟨G2,j1,j2,j3,j4,j5⟩
      ·cases hi
    | rptr sz =>
     cases x with
     | one d=>exact hA1.elim
     | agg d=>exact hA1.elim
     | ptr ds =>
      simp only [initP] at hi
      split at hi
      ·split at hi
       ·rename_i svs' h' hi'
        cases hi
        obtain ⟨G2,j1,j2,_,j3,j4,j5⟩:=tail (sx:=.pv ds 0) hi' H (Same.refl G st.h) hA1.2 sepR ha
        exact ⟨G2,j1,j2,j3,j4,j5⟩
       ·cases hi
      ·cases hi
    | fnp f sz =>
     cases x with
     | one d=>exact hA1.elim
     | agg d=>exact hA1.elim
     | ptr ds =>
      simp only [initP] at hi
      split at hi
      ·split at hi
       ·rename_i svs' h' hi'
        cases hi
        obtain ⟨G2,j1,j2,_,j3,j4,j5⟩:=tail (sx:=.fb f ds) hi' H (Same.refl G st.h) hA1.2 sepR ha
        exact ⟨G2,j1,j2,j3,j4,j5⟩
       ·cases hi
      ·cases hi
    | own ks =>
     cases x with
     | ptr ds=>simp [initP] at hi
     | one d =>
      simp only [initP] at hi
      split at hi
      ·rename_i c dd svs' h' hl hi'
       cases hi
       rw [jgb] at ha
       split at ha
       ·rename_i stA hA'
        obtain ⟨GA,i1,i2,i3,i4,_⟩:=laid hl hA1 hA'
        obtain ⟨q,q1,q2,q3⟩:=i3.2 0 c rfl
        simp at q1;subst q1
        obtain ⟨G2,j1,j2,_,j3,j4,j5⟩:=tail (sx:=c) hi' i1 i2 (jfc q3) i4 ha
        exact ⟨G2,j1,j2,j3,j4,j5⟩
       ·cases ha
      ·cases hi
     | agg ds =>
      simp only [initP] at hi
      split at hi
      ·rename_i c dd svs' h' hl hi'
       cases hi
       obtain ⟨us,rfl,hk⟩:=hA1
       rw [jgb] at ha
       split at ha
       ·rename_i stA hA'
        obtain ⟨GA,i1,i2,i3,i4,_⟩:=laid hl hk hA'
        obtain ⟨G2,j1,j2,_,j3,j4,j5⟩:=tail (sx:=.agg c) hi' i1 i2 ⟨us,rfl,i3.1,i3.2⟩ i4 ha
        exact ⟨G2,j1,j2,j3,j4,j5⟩
       ·cases ha
      ·cases hi
    | io ks =>
     cases x with
     | ptr ds=>simp [initP] at hi
     | one d =>
      simp only [initP] at hi
      split at hi
      ·rename_i c dd svs' h' hl hi'
       cases hi
       rw [jgb] at ha
       split at ha
       ·rename_i stA hA'
        obtain ⟨GA,i1,i2,i3,i4,_⟩:=laid hl hA1.1 hA'
        obtain ⟨q,q1,q2,q3⟩:=i3.2 0 c rfl
        simp at q1;subst q1
        obtain ⟨G2,j1,j2,_,j3,j4,j5⟩:=tail (sx:=c) hi' i1 i2 (jfc q3) i4 ha
        exact ⟨G2,j1,j2,j3,j4,j5⟩
       ·cases ha
      ·cases hi
     | agg ds =>
      simp only [initP] at hi
      split at hi
      ·rename_i c dd svs' h' hl hi'
       cases hi
       obtain ⟨us,rfl,hk⟩:=hA1
       rw [jgb] at ha
       split at ha
       ·rename_i stA hA'
        obtain ⟨GA,i1,i2,i3,i4,_⟩:=laid hl hk hA'
        obtain ⟨G2,j1,j2,_,j3,j4,j5⟩:=tail (sx:=.agg c) hi' i1 i2 ⟨us,rfl,i3.1,i3.2⟩ i4 ha
        exact ⟨G2,j1,j2,j3,j4,j5⟩
       ·cases ha
      ·cases hi
    | ptr ks =>
     cases x with
     | one d=>exact hA1.elim
     | agg d=>exact hA1.elim
     | ptr ds =>
      simp only [initP] at hi
      split at hi
      ·rename_i c dd svs' h' hl hi'
       cases hi
       obtain ⟨g,b,cur,e,us,rfl,k2,k3,k4,k5,k6,k7⟩:=hA1
       rw [jgb] at ha
       split at ha
       ·rename_i stA hA'
        obtain ⟨GA,i1,i2,i3,i4,i5⟩:=laid hl k6 hA'
        simp only [adds] at ha
        split at ha
        ·cases ha
        ·rename_i hnone
         have hnl:¬ GA.live (nm s 0):=fun h=>by obtain ⟨b,hb,_⟩:=i1.B.rel _ h id;rw [hnone] at hb;cases hb
         have hcl:=i3.1.symm.trans k6.2.1
         have hadd:=jeg (n:=nm s 0) (b:=(g,b)) (v:=undef) (ψ:=Θ 0 0) (x:=.box c) i1 hnone id (fun k hk=>⟨(hm 0 0 k hk).1,.inl (hm 0 0 k hk).2⟩) (fun k n hk hn _ hφ=>i5 k n hk hn hφ) ⟨cur,e,by simp [Gh.add,k2],by simp [Gh.add,k3],fun lo hi hlb'=>by
           simp only [Gh.add,if_true] at hlb' ⊢
           rw [hcl];exact k7 lo hi hlb',by simp [Gh.add,hcl];exact k4,fun j x hj=>by
           obtain ⟨q,q1,q2,q3⟩:=i3.2 j x hj
           exact ⟨q,by simp only [Gh.add,if_true];exact k5 j q q1,q2,jea (fun m _=>joe hnl _ _ _ _ m) q3⟩⟩
         have hsep':∀i j k n,Θ (i+1) j k→(GA.add (nm s 0) (g,b) undef (Θ 0 0)).live n→(GA.add (nm s 0) (g,b) undef (Θ 0 0)).φ n k→False:=fun i j k n hh hn hφ=>by
          simp only [Gh.add] at hφ
          split at hφ
          ·have:=(hap _ _ _ _ _ hh hφ).1;omega
          ·rename_i hne
           rcases hn with hn | hn
           ·exact i4 i j k n hh hn hφ
           ·exact hne hn
         obtain ⟨G2,j1,j2,j2',j3,j4,j5⟩:=tail (sx:=.ptr (nm s 0) 0) hi' hadd (fun n=>(i2 n).trans (joe hnl _ _ _ _ n)) ⟨.inr rfl,by simp [Gh.add]⟩ hsep' ha
         have hlive:=j2' (nm s 0) (.inr rfl)
         refine ⟨G2,j1,j2,j3,⟨?_,j4⟩,⟨hlive.1,c,?_⟩,j5⟩
         ·rw [hlive.2.1];simp [Gh.add]
         ·exact (jgk ha).1 _ _ (by show hlk (stA.h++[(nm s 0,.box c)]) (nm s 0)=_;rw [jka,hnone];simp)
       ·cases ha
      ·cases hi
end Go.Den

/- A function keeps its promise. -/
namespace Go.Den
open Go
variable {C:Ctx} {R:Rt} {G G0 G1:Gh} {st st1 st2:St} {a:Act} {w w':World} {o:Oper} {v:SV}

theorem jwe {n m:Nat} (h:n≤m):∀{os:List Oper} {seen:List Nat},jbb n seen os=true→jbb m seen os=true
 | [],_,_=>rfl
 | o :: os,seen,hc=>by
  simp only [jbb] at hc ⊢
  split at hc
  ·exact jwe h hc
  ·simp only [Bool.and_eq_true,decide_eq_true_eq] at hc ⊢
   exact ⟨⟨Nat.lt_of_lt_of_le hc.1.1 h,hc.1.2⟩,jwe h hc.2⟩
theorem jwr {n m:Nat} (h:n≤m) {ops:Array Oper} {order:List (Nat × Nat × List Nat)} (hc:jfg n ops order=true):jfg m ops order=true:=by
 simp only [jfg,Bool.and_eq_true] at hc ⊢
 exact ⟨⟨jwe h hc.1.1,hc.1.2⟩,hc.2⟩
theorem chkDrawL_mono {n m:Nat} (h:n≤m) {ops:Array Oper} {order:List (Nat × Nat × List Nat)} (hc:chkDrawL n ops order=true):chkDrawL m ops order=true:=by
 unfold chkDrawL at hc ⊢
 split at hc
 ·rename_i hd
  rw [if_pos (jwr h hd)]
 ·split
  ·rfl
  ·unfold chkLate at hc ⊢
   rw [Bool.and_eq_true] at hc ⊢
   exact ⟨hc.1,jwr h hc.2⟩
theorem jqt {ord:List (Nat × List (Nat × Nat × List Nat))} {n m:Nat} {p:List Nat} (h:n≤m):∀{c:Code},jha ord n p c=true→jha ord m p c=true:=by
 intro c
 induction c with
 | region i ops d =>
  intro hc
  simp only [jha,Bool.and_eq_true] at hc ⊢
  refine ⟨?_,hc.2⟩
  have hc:=hc.1
  split
  ·rename_i hd;rw [if_pos hd] at hc;exact chkDrawL_mono h hc
  ·rename_i hd;rw [if_neg hd] at hc;exact jwe h hc
 | seq x y ihx ihy=>intro hc;simp only [jha,Bool.and_eq_true] at hc ⊢;exact ⟨ihx hc.1,ihy hc.2⟩
 | cond c x y ihx ihy=>intro hc;simp only [jha,Bool.and_eq_true] at hc ⊢;exact ⟨ihx hc.1,ihy hc.2⟩
 | block i x ih=>intro hc;simp only [jha] at hc ⊢;exact ih hc
 | loop x ih=>intro hc;simp only [jha] at hc ⊢;exact ih hc
 | _=>intro _;rfl
theorem jvx (m:List SV) (l:List (Nat × Path × Bool × SV)):∀{xs:List (Nat × Blk)} {st st1:St},adds st xs=some st1→adds ⟨m,l,st.h⟩ xs=some ⟨m,l,st1.h⟩
 | [],st,st1,h=>by simp [adds] at h;subst h;rfl
 | (k,x) :: r,st,st1,h=>by
  simp only [adds] at h ⊢
  split at h
  ·cases h
  ·exact jvx m l h
theorem jer (vs:List SV):∀(ks:List Nat) (t:Nat),lkm ks (initM ks vs) t=if isIn ks t then nth vs t .undef else .undef
 | [],t=>rfl
 | k :: ks,t=>by
  simp only [initM,lkm,isIn]
  by_cases h:k=t
  ·subst h;simp
  ·simp only [if_neg h];exact jer vs ks t
theorem jsp (vs:List SV):∀(ks:List Nat),(initM ks vs).length=ks.length
 | []=>rfl
 | k :: ks=>by simp [initM,jsp vs ks]
theorem jbx {α:Type}:∀(l:List α) (n:Nat) (z:α),nth l n z=(l[n]?).getD z
 | [],n,z=>by simp [nth]
 | x :: xs,0,z=>rfl
 | x :: xs,n+1,z=>by simp [nth,jbx xs n z]
def jxa:Nat→List Mode→List Nat
 | s,.ptr _ :: ms=>nm s 0 :: jxa (s+1) ms
 | s,_ :: ms=>jxa (s+1) ms
 | _,[]=>[]
def Rt.fixed (R:Rt) (f:Nat→Option (Nat × Nat)):Rt:={ R with fix:=f }
def jej (G:Gh) (ns:List Nat):Nat→Option (Nat × Nat):=fun n=>if n∈ns then some (G.base n) else none
theorem jfj:∀{ms:List Mode} {s:Nat} {h:List (Nat × Blk)},Born G h s ms→∀n∈jxa s ms,G.live n∧∃cs,hlk h n=some (.box cs)
 | [],s,h,_,n,hn=>by simp [jxa] at hn
 | m :: ms,s,h,hb,n,hn=>by
  cases m with
  | ptr ks =>
   simp only [jxa,List.mem_cons] at hn
   rcases hn with rfl | hn
   ·exact hb.1
   ·exact jfj hb.2 n hn
  | _=>exact jfj (s:=s+1) hb n hn
theorem jfn {ns:List Nat}:∀{ms:List Mode} {s:Nat},(∀n∈jxa s ms,n∈ns)→jqn (R.fixed (jej G ns)) s ms
 | [],s,_=>trivial
 | m :: ms,s,h=>by
  cases m with
  | ptr ks=>exact ⟨⟨G.base (nm s 0),by simp [Rt.fixed,jej,h (nm s 0) (by simp [jxa])]⟩,jfn (fun n hn=>h n (by simp [jxa,hn]))⟩
  | _=>exact jfn (s:=s+1) (fun n hn=>h n hn)
theorem jak {G':Gh}:∀{ms:List Mode} {s:Nat} {vs:List Value},(∀n∈jxa s ms,G'.base n=G.base n)→Places G s ms vs→Places G' s ms vs
 | [],s,vs,_,h=>by cases vs<;>exact h
 | m :: ms,s,vs,hb,h=>by
  cases vs with
  | nil=>cases m<;>exact h
  | cons v vs =>
   cases m with
   | ptr ks=>exact ⟨by rw [hb (nm s 0) (by simp [jxa])];exact h.1,jak (fun n hn=>hb n (by simp [jxa,hn])) h.2⟩
   | _=>exact jak (s:=s+1) (fun n hn=>hb n hn) h
theorem jgv {f:Nat→Option (Nat × Nat)} (H:WInv R w):WInv (R.fixed f) w:=⟨H.os,H.tape,H.output,H.size,H.T,H.old,H.out⟩
theorem jno {f:Nat→Option (Nat × Nat)} (H:WInv (R.fixed f) w):WInv R w:=⟨H.os,H.tape,H.output,H.size,H.T,H.old,H.out⟩
theorem jhe {P:Program} {f:Nat→Option (Nat × Nat)}:∀{kss:List (List (Option (Nat × Nat)))} {rs:List DV} {vs:List Value} {Θ:Nat→Nat→Nat→Prop},jxf P (R.fixed f) w kss rs vs Θ→jxf P R w kss rs vs Θ
 | [],rs,vs,Θ,h=>by cases rs<;>cases vs<;>exact h
 | ks :: kss,rs,vs,Θ,h=>by
  cases rs with
  | nil=>exact h
  | cons r rs =>
   cases vs with
   | nil=>exact h
   | cons v vs=>exact ⟨by cases r<;>exact h.1,jhe h.2⟩
theorem jky {P:Program} {ks:List (Option (Nat × Nat))} {b:Bool} {v:Value} {θ:Nat→Nat→Prop} (h:KC P R w ks [.b b] [v] θ):v=.bool b:=by
 obtain ⟨h1,_,h3⟩:=h
 cases ks with
 | nil=>simp at h1
 | cons k ks =>
  have:=(h3 0 k (.b b) v rfl rfl rfl).2
  cases k with
  | none=>cases this;rfl
  | some p =>
   obtain ⟨e,sz⟩:=p
   obtain ⟨xs,e,_⟩:=this
   cases e
theorem joq {P:Program} {b:Bool}:∀{kss:List (List (Option (Nat × Nat)))} {rs:List DV} {vs:List Value} {Θ:Nat→Nat→Nat→Prop},jxf P R w kss rs vs Θ→jvb rs=some b→∃us,vs=us++[.bool b]
 | [],[],_,Θ,_,hb=>by cases hb
 | [],_ :: _,[],Θ,h,_=>h.elim
 | [],_ :: _,_ :: _,Θ,h,_=>h.elim
 | _ :: _,[],[],Θ,h,_=>h.elim
 | _ :: _,[],_ :: _,Θ,h,_=>h.elim
 | _ :: _,_ :: _,[],Θ,h,_=>h.elim
 | ks :: kss,[x],v :: vs,Θ,h,hb=>by
  have hx:x=.one (.b b):=by
   match x,hb with
   | .one (.b y),hb=>simp only [jvb,Option.some.injEq] at hb;rw [hb]
   | .one (.i _ _),hb=>simp [jvb] at hb
   | .one (.s _),hb=>simp [jvb] at hb
   | .one (.l _),hb=>simp [jvb] at hb
   | .agg _,hb=>simp [jvb] at hb
   | .ptr _,hb=>simp [jvb] at hb
  subst hx
  have hv:vs=[]:=by
   cases kss with
   | nil=>cases vs with
    | nil=>rfl
    | cons _ _=>exact h.2.elim
   | cons _ _=>cases vs<;>exact h.2.elim
  subst hv
  have h1:=h.1.1
  have:v=.bool b:=jky h1
  rw [this];exact ⟨[],rfl⟩
 | ks :: kss,x :: y :: rs,v :: vs,Θ,h,hb=>by
  have hb':jvb (y :: rs)=some b:=by
   have e:jvb (x :: y :: rs)=jvb (y :: rs):=by
    cases x with
    | one d=>cases d<;>rfl
    | _=>rfl
   rw [←e];exact hb
  obtain ⟨us,e1⟩:=joq h.2 hb'
  exact ⟨v :: us,by rw [e1];rfl⟩
theorem joo {h:List (Nat × Blk)}:∀{xs:List SV} {vs:List Value},jca R G h xs vs→jvo xs=true→∃us,vs=us++[.bool false]
 | [],vs,_,hb=>by cases hb
 | [x],vs,hv,hb=>by
  obtain ⟨v,vs',rfl,h1,h2⟩:=hv.tail
  have:vs'=[]:=List.eq_nil_of_length_eq_zero (by simpa using h2.1)
  subst this
  have hx:x=.d (.b false):=by
   match x,hb with
   | .d (.b false),_=>rfl
  subst hx
  have h1':Rep R.w0 R.T (.b false) v:=h1
  cases h1'
  exact ⟨[],rfl⟩
 | x :: y :: xs,vs,hv,hb=>by
  obtain ⟨v,vs',rfl,h1,h2⟩:=hv.tail
  have e:jvo (x :: y :: xs)=jvo (y :: xs):=by
   match x with
   | .d (.b false)=>rfl
   | .d (.b true)=>rfl
   | .d (.i _ _)=>rfl
   | .d (.s _)=>rfl
   | .d (.l _)=>rfl
   | .nils=>rfl
   | .own _=>rfl
   | .ptr _ _=>rfl
   | .nilp=>rfl
   | .pv _ _=>rfl
   | .rp _ _ _=>rfl
   | .ov _ _=>rfl
   | .fn _=>rfl
   | .op _ _=>rfl
   | .fp _ _ _=>rfl
   | .fb _ _=>rfl
   | .bx _ _ _=>rfl
   | .undef=>rfl
   | .agg _=>rfl
   | .tup _=>rfl
  rw [e] at hb
  obtain ⟨us,e1⟩:=joo h2 hb
  exact ⟨v :: us,by rw [e1];rfl⟩
theorem jey {P:Program} {ks:List (Option (Nat × Nat))} {ds:List D} {us:List Value} {θ:Nat→Nat→Prop} (h:KC P R w ks ds us θ):us.length=ds.length∧∀u∈us,u.oneCell'=true:=by
 obtain ⟨h1,h2,h3⟩:=h
 refine ⟨h2,fun u hu=>?_⟩
 obtain ⟨j,hj,rfl⟩:=List.mem_iff_getElem.1 hu
 exact (h3 j ks[j] ds[j] us[j] (by simp) (by simp) (by simp)).1
theorem jzi {P:Program}:∀{zs:List DV} {kss:List (List (Option (Nat × Nat)))} {rs:List DV} {vs:List Value} {Θ:Nat→Nat→Nat→Prop},jxf P R w kss rs vs Θ→shD zs rs=true→ShV zs vs
 | [],kss,[],vs,Θ,h,_=>by
  cases kss<;>cases vs<;>first | exact h.elim | trivial
 | [],_,_ :: _,_,_,_,hs=>by simp [shD] at hs
 | z :: zs,kss,[],vs,Θ,_,hs=>by cases z<;>simp [shD] at hs
 | z :: zs,kss,r :: rs,vs,Θ,h,hs=>by
  cases kss with
  | nil=>cases vs<;>exact h.elim
  | cons ks kss =>
   cases vs with
   | nil=>exact h.elim
   | cons v vs =>
    cases z with
    | agg a =>
     cases r with
     | agg b =>
      simp only [shD,Bool.and_eq_true,decide_eq_true_eq] at hs
      obtain ⟨⟨us,e,hk⟩,_⟩:=h.1
      exact ⟨⟨us,e,by rw [(jey hk).1,hs.1],(jey hk).2⟩,jzi h.2 hs.2⟩
     | one _=>simp [shD] at hs
     | ptr _=>simp [shD] at hs
    | one d =>
     cases r with
     | one _ =>
      simp only [shD] at hs
      exact (show ShV zs vs from jzi h.2 hs)
     | agg _=>simp [shD] at hs
     | ptr _=>simp [shD] at hs
    | ptr _=>cases r<;>simp [shD] at hs
theorem jen {h:List (Nat × Blk)}:∀{zs:List DV} {xs:List SV} {vs:List Value},jca R G h xs vs→shS zs xs=true→ShV zs vs
 | [],[],vs,hv,_=>by
  have:vs=[]:=List.eq_nil_of_length_eq_zero (by simpa using hv.1)
  subst this;trivial
 | [],_ :: _,_,_,hs=>by simp [shS] at hs
 | z :: zs,[],vs,_,hs=>by cases z<;>simp [shS] at hs
 | z :: zs,x :: xs,vs,hv,hs=>by
  obtain ⟨v,vs',rfl,h1,h2⟩:=hv.tail
  cases z with
  | agg a =>
   cases x with
   | agg c =>
    simp only [shS,Bool.and_eq_true,decide_eq_true_eq] at hs
    obtain ⟨us,e,hl,hc⟩:=h1
    refine ⟨⟨us,e,by rw [hl,hs.1],fun u hu=>?_⟩,jen h2 hs.2⟩
    obtain ⟨j,hj,rfl⟩:=List.mem_iff_getElem.1 hu
    obtain ⟨u',e1,e2,_⟩:=hc j c[j] (by simp)
    rw [List.getElem?_eq_getElem hj] at e1
    cases e1;exact e2
   | _=>simp [shS] at hs
  | one d =>
   simp only [shS] at hs
   exact (show ShV zs vs' from jen h2 hs)
  | ptr _=>simp [shS] at hs
theorem epD_ok {h:List (Nat × Blk)} {f:Nat→Option (Nat × Nat)} {zs:List D} {x:SV} {b:Bool} {ds:List D} {u:Value} (he:epD zs x=some (b,ds)) (hx:VRel (R.fixed f) G h x u):(b=true→PvR R ds 0 u)∧(b=false→u=.pointer none):=by
 unfold epD at he
 split at he
 ·cases he;exact ⟨fun e=>(by cases e),fun _=>hx⟩
 ·rename_i cs off
  split at he
  ·cases he
   obtain ⟨g,o,h1,h2,h3⟩:=hx
   refine ⟨fun _=>⟨g,o+off,by simpa using h1,h2,fun j d hj=>?_⟩,fun e=>(by cases e)⟩
   rw [List.getElem?_take] at hj
   split at hj
   ·rw [List.getElem?_drop] at hj
    obtain ⟨v,k1,k2⟩:=h3 (off+j) d hj
    exact ⟨v,by rw [Nat.add_assoc];exact k1,k2⟩
   ·cases hj
  ·cases he
 ·split at he
  ·cases he;exact hx
  ·cases he
 ·cases he
theorem juj {f:Nat→Option (Nat × Nat)}:∀{rs:List DV} {vs:List Value},ScsK (R.fixed f) rs vs→ScsK R rs vs
 | [],vs,h=>by cases vs<;>exact h
 | r :: rs,vs,h=>by
  cases vs with
  | nil=>exact h
  | cons v vs=>exact ⟨by cases r<;>exact h.1,juj h.2⟩
theorem jde {P:Program} {f:Nat→Option (Nat × Nat)}:∀{ms:List Mode} {vs:List Value} {os:List (List D)} {Θ:Nat→Nat→Nat→Prop},jyc P (R.fixed f) w ms vs os Θ→jyc P R w ms vs os Θ
 | [],vs,os,Θ,h=>by cases vs<;>cases os<;>exact h
 | m :: ms,vs,os,Θ,h=>by
  cases m with
  | ptr ks =>
   cases vs with
   | nil=>exact h
   | cons v vs =>
    cases os with
    | nil=>exact h
    | cons o os=>exact ⟨h.1,jde h.2⟩
  | io ks =>
   cases vs with
   | nil=>exact h
   | cons v vs =>
    cases os with
    | nil=>exact h
    | cons o os=>exact ⟨h.1,jde h.2⟩
  | _ =>
   cases vs with
   | nil=>cases os<;>exact h
   | cons v vs=>cases os<;>exact jde (Θ:=fun i=>Θ (i+1)) h
def parS (C:Ctx) (st:St):Nat→List Mode→List SV | _,[]=>[] | s,_ :: ms=>lkm C.keep st.m s :: parS C st (s+1) ms
theorem jdo:∀(ms:List Mode) (s:Nat),jli C st s ms=ioNs ms (parS C st s ms)
 | [],s=>rfl
 | m :: ms,s=>by cases m<;>simp only [jli,parS,ioNs,jdo ms (s+1)]
theorem jlv {ks:List (Option (Nat × Nat))} {x:SV} {ds:List D} (h:takeI st ks (cellsOf x)=some ds):okSV x=true:=by
 cases x<;>first | rfl | skip
 all_goals
  cases ks with
  | nil=>simp [cellsOf,takeI] at h
  | cons k ks=>cases k<;>simp [cellsOf,takeI] at h
theorem jhk (H:Inv C R G st a w):∀(ms:List Mode) (s:Nat) (vs:List Value) (os:List (List D)) (Ω:Nat→Nat→Nat→Prop),jia ms=true→(∀ks,Mode.io ks∈ms→KOk C.P ks)→(∀(i:Nat) ks v,ms[i]? = some (.io ks)→vs[i]? = some v→VRel R G st.h (lkm C.keep st.m (s+i)) v)→vs.length=ms.length→jff C st s ms=some os→(∀i j k,Ω i j k↔thI G ms (parS C st s ms) i j k) →
  jyc C.P R w ms vs os Ω∧∀i j n,PosI ms (parS C st s ms) i j n→G.live n∧∃e sz ys,hlk st.h n=some (.row e sz ys)
 | [],s,vs,os,Ω,_,_,_,hl,h,_=>by
  simp only [jff,Option.some.injEq] at h
  subst h
  cases vs with
  | nil=>exact ⟨trivial,fun i j n hp=>by simp [PosI] at hp⟩
  | cons v vs=>simp at hl
 | m :: ms,s,[],os,Ω,_,_,_,hl,h,_=>by simp at hl
 | m :: ms,s,v :: vs,os,Ω,hm,hk,hv,hl,h,hΩ=>by
  have hm':jia ms=true:=by cases m<;>simp_all [jia]
  have hv':∀(i:Nat) ks u,ms[i]? = some (.io ks)→vs[i]? = some u→VRel R G st.h (lkm C.keep st.m (s+1+i)) u:=fun i ks u h1 h2=>by
   have:=hv (i+1) ks u (by simpa using h1) (by simpa using h2)
   rwa [show s+(i+1)=s+1+i by omega] at this
  have hΩ':∀i j k,Ω (i+1) j k↔thI G ms (parS C st (s+1) ms) i j k:=fun i j k=>by
   rw [hΩ];simp only [thI,parS,jna]
  cases m with
  | io ks =>
   simp only [jff] at h
   split at h
   ·rename_i x r ht hr
    cases h
    have hx:=hv 0 ks v rfl rfl
    rw [Nat.add_zero] at hx
    have hok:=jlv ht
    obtain ⟨c1,c2⟩:=jsb hx hok
    have hu:jla R G st.h (cellsOf (lkm C.keep st.m s)) v.cells.toList:=⟨by simpa using c1,fun j y hj=>by obtain ⟨q,k1,k2,k3⟩:=c2 j y hj;exact ⟨q,by simpa using k1,k2,k3⟩⟩
    have hK:=jjy (Rr:=R) (fun h=>h) H hu ht
    obtain ⟨o1,o2⟩:=jhk H ms (s+1) vs r (fun i=>Ω (i+1)) hm' (fun ks' hq=>hk ks' (by simp [hq])) hv' (by simpa using hl) hr hΩ'
    have e2:(fun j=>Ω 0 (j+1))=fun j k=>∃n,(cellsOf (lkm C.keep st.m s))[j]? = some (.own n)∧G.φ n k:=by
     funext j k
     refine propext ?_
     rw [hΩ]
     constructor
     ·rintro ⟨j',n,e1,⟨ks',v',p1,p2,p3⟩,e3⟩
      simp [parS] at p2;subst p2
      have:j=j':=by omega
      subst this
      exact ⟨n,p3,e3⟩
     ·rintro ⟨n,e1,e3⟩
      exact ⟨j,n,rfl,⟨ks,_,rfl,by simp [parS],e1⟩,e3⟩
    refine ⟨⟨by rw [e2];exact hK,o1⟩,fun i j n hp=>?_⟩
    cases i with
    | zero =>
     obtain ⟨ks',v',p1,p2,p3⟩:=hp
     simp [parS] at p2;subst p2
     obtain ⟨y,_,_,hy⟩:=c2 j _ p3
     obtain ⟨t1,t2,t3⟩:=jif ht
     have hj:j < (cellsOf (lkm C.keep st.m s)).length:=(List.getElem?_eq_some_iff.1 p3).1
     rcases t3 j (ks[j]'(by omega)) _ (x[j]'(by omega)) (by simp) p3 (by simp) with ⟨_,e⟩ | ⟨e,sz,n',ys,_,e5,_,hrow⟩
     ·cases e
     ·cases e5;exact ⟨hy.1,e,sz,ys,hrow⟩
    | succ i=>exact o2 i j n (jna.1 hp)
   ·cases h
  | bor =>
   have h':jff C st (s+1) ms=some os:=by simpa [jff] using h
   obtain ⟨o1,o2⟩:=jhk H ms (s+1) vs os (fun i=>Ω (i+1)) hm' (fun ks' hq=>hk ks' (by simp [hq])) hv' (by simpa using hl) h' hΩ'
   refine ⟨by cases os<;>exact o1,fun i j n hp=>?_⟩
   cases i with
   | zero=>obtain ⟨ks',v',p1,_⟩:=hp;simp at p1
   | succ i=>exact o2 i j n (jna.1 hp)
  | _=>simp [jia] at hm
theorem jzq {P:Program}:∀{ms:List Mode} {xs:List DV} {vs:List Value} {Θ:Nat→Nat→Nat→Prop},jwf P R ms xs vs Θ→vs.length=ms.length
 | [],[],[],_,_=>rfl
 | [],[],_ :: _,_,h=>h.elim
 | [],_ :: _,vs,_,h=>by cases vs<;>exact h.elim
 | _ :: _,[],vs,_,h=>by cases vs<;>exact h.elim
 | _ :: _,_ :: _,[],_,h=>h.elim
 | m :: ms,x :: xs,v :: vs,_,h=>by simp [jzq h.2]
def ioIx:Nat→List Mode→List Nat | _,[]=>[] | s,.io _ :: ms=>s :: ioIx (s+1) ms | s,_ :: ms=>ioIx (s+1) ms
theorem jws:∀{ms:List Mode} {s i:Nat} {ks:List (Option (Nat × Nat))},ms[i]? = some (.io ks)→s+i∈ioIx s ms
 | [],s,i,ks,h=>by simp at h
 | m :: ms,s,0,ks,h=>by simp at h;subst h;simp [ioIx]
 | m :: ms,s,i+1,ks,h=>by
  have:=jws (s:=s+1) (i:=i) (ks:=ks) (ms:=ms) (by simpa using h)
  rw [show s+(i+1)=s+1+i by omega]
  cases m<;>simp [ioIx,this]

theorem jfm:∀{rs:List ResultVar} {vs:List SV},Inv C R G st a w→resVs C st rs=some vs→∃rv:List Value,rs.length=rv.length∧(∀(j:Nat) r v,rs[j]? = some r→rv[j]? = some v→jzg C.P a.tmps w r v)∧jca R G st.h vs rv
 | [],vs,H,h=>by
  simp only [resVs,Option.some.injEq] at h
  subst h
  exact ⟨[],rfl,fun j r v hj=>by simp at hj,rfl,fun j x hj=>by simp at hj⟩
 | r :: rs,vs,H,h=>by
  simp only [resVs] at h
  split at h
  ·rename_i x xs hx hxs
   cases h
   obtain ⟨u,h1,h2⟩:=jmw H hx
   obtain ⟨rv,h3,h4,h5⟩:=jfm H hxs
   refine ⟨u :: rv,by simp [h3],fun j r' v hj hv=>?_,by simp [h5.1],fun j y hj=>?_⟩
   ·cases j with
    | zero=>simp at hj hv;subst hj hv;exact h1
    | succ j=>exact h4 j r' v (by simpa using hj) (by simpa using hv)
   ·cases j with
    | zero=>simp at hj;subst hj;exact ⟨u,rfl,h2⟩
    | succ j=>simpa using h5.2 j y (by simpa using hj)
  ·cases h

theorem crel_fixed {h:List (Nat × Blk)} {x:SV} {u:Value} {f:Nat→Option (Nat × Nat)} (hf:R.fix=fun _=>none) (hx:CRel R G h x u):CRel (R.fixed f) G h x u:=by
 cases x<;>first | exact hx | skip
 obtain ⟨⟨b,hb,_⟩,_⟩:=hx
 rw [hf] at hb;cases hb
theorem arel_fixed {h:List (Nat × Blk)} {x:SV} {u:Value} {f:Nat→Option (Nat × Nat)} (hf:R.fix=fun _=>none) (hx:ARel R G h x u):ARel (R.fixed f) G h x u:=by
 cases x with
 | agg cs =>
  obtain ⟨vs,h1,h2,h3⟩:=hx
  exact ⟨vs,h1,h2,fun j y hj=>by obtain ⟨q,q1,q2,q3⟩:=h3 j y hj;exact ⟨q,q1,q2,crel_fixed hf q3⟩⟩
 | bx n j d=>exact crel_fixed (G:=G) (h:=h) (x:=.bx n j d) hf hx
 | _=>exact hx
theorem vrel_fixed {h:List (Nat × Blk)} {x:SV} {u:Value} {f:Nat→Option (Nat × Nat)} (hf:R.fix=fun _=>none) (hx:VRel R G h x u):VRel (R.fixed f) G h x u:=by
 cases x with
 | tup xs =>
  obtain ⟨vs,h1,h2,h3⟩:=hx
  exact ⟨vs,h1,h2,fun j y hj=>by obtain ⟨q,q1,q2⟩:=h3 j y hj;exact ⟨q,q1,arel_fixed hf q2⟩⟩
 | agg cs=>exact arel_fixed (x:=.agg cs) hf hx
 | bx n j d=>exact crel_fixed (G:=G) (h:=h) (x:=.bx n j d) hf hx
 | _=>exact hx
theorem brel_fixed {P:Program} {h:List (Nat × Blk)} {n:Nat} {b:Blk} {f:Nat→Option (Nat × Nat)} (hf:R.fix=fun _=>none) (hx:BRel R G h P w n b):BRel (R.fixed f) G h P w n b:=by
 cases b with
 | row e sz xs=>exact hx
 | box cs =>
  obtain ⟨cur,e,h1,h2,h3,h4,h5⟩:=hx
  exact ⟨cur,e,h1,h2,h3,h4,fun j y hj=>by obtain ⟨q,q1,q2,q3⟩:=h5 j y hj;exact ⟨q,q1,q2,crel_fixed hf q3⟩⟩
theorem bxs_len (n:Nat):∀(j:Nat) (ks:List (Option (Nat × Nat))) (cs:List SV),(bxs n j ks cs).length=cs.length
 | j,[],cs=>by cases cs<;>rfl
 | j,k :: ks,[]=>by cases k<;>rfl
 | j,none :: ks,c :: cs=>by cases c<;>simp only [bxs,List.length_cons,bxs_len n (j+1) ks cs]
 | j,some p :: ks,c :: cs=>by simp only [bxs,List.length_cons,bxs_len n (j+1) ks cs]
theorem bxs_get (n:Nat):∀(j0:Nat) (ks:List (Option (Nat × Nat))) (cs:List SV) (j:Nat) (y:SV),(bxs n j0 ks cs)[j]? = some y→∃c,cs[j]? = some c∧(y=c∨∃x,c=.d x∧y=.bx n (j0+j) x)
 | j0,[],cs,j,y,h=>⟨y,by cases cs<;>exact h,.inl rfl⟩
 | j0,k :: ks,[],j,y,h=>by cases k<;>simp [bxs] at h
 | j0,none :: ks,c :: cs,0,y,h=>by
  cases c with
  | d x =>
   simp only [bxs,List.getElem?_cons_zero,Option.some.injEq] at h
   refine ⟨.d x,rfl,?_⟩
   cases hs:isSc x with
   | true=>rw [hs] at h;simp at h;exact .inl h.symm
   | false=>rw [hs] at h;simp at h;exact .inr ⟨x,rfl,h.symm⟩
  | _=>simp only [bxs,List.getElem?_cons_zero,Option.some.injEq] at h;subst h;exact ⟨_,rfl,.inl rfl⟩
 | j0,some p :: ks,c :: cs,0,y,h=>by
  simp only [bxs,List.getElem?_cons_zero,Option.some.injEq] at h;subst h;exact ⟨_,rfl,.inl rfl⟩
 | j0,none :: ks,c :: cs,j+1,y,h=>by
  have h':(bxs n (j0+1) ks cs)[j]? = some y:=by cases c<;>simpa only [bxs,List.getElem?_cons_succ] using h
  obtain ⟨c',h1,h2⟩:=bxs_get n (j0+1) ks cs j y h'
  rw [show j0+1+j=j0+(j+1) by omega] at h2
  exact ⟨c',by simpa using h1,h2⟩
 | j0,some p :: ks,c :: cs,j+1,y,h=>by
  have h':(bxs n (j0+1) ks cs)[j]? = some y:=by simpa only [bxs,List.getElem?_cons_succ] using h
  obtain ⟨c',h1,h2⟩:=bxs_get n (j0+1) ks cs j y h'
  rw [show j0+1+j=j0+(j+1) by omega] at h2
  exact ⟨c',by simpa using h1,h2⟩
theorem bx_inv {n:Nat} {cs:List SV} {ks:List (Option (Nat × Nat))} (H:Inv C R G st a w) (hw:w=R.w0) (hf:R.fix n=some (G.base n)) (hb:hlk st.h n=some (.box cs)) :
  Inv C R G { st with h:=hset st.h n (.box (bxs n 0 ks cs)) } a w:=by
 have hs:∀k,Same G st.h G (hset st.h n (.box (bxs n 0 ks cs))) k:=fun k hk=>⟨hk,rfl,rfl,fun e sz xs hx=>⟨xs,by rw [jga,if_neg (fun e=>by subst e;rw [hb] at hx;cases hx)];exact hx⟩⟩
 refine ⟨H.W,⟨fun k hk hS=>?_,H.B.disj,H.B.mine,fun k b' hf'=>?_⟩,fun _ _ _=>id,fun t=>jib hs (H.slots t),H.l,H.m⟩
 ·obtain ⟨b,h1,h2⟩:=H.B.rel k hk hS
  by_cases hkn:k=n
  ·subst hkn
   rw [hb] at h1;cases h1
   obtain ⟨cur,e,b1,b2,b3,b4,b5⟩:=h2
   refine ⟨.box (bxs k 0 ks cs),by show hlk (hset st.h k _) k=_;rw [jga,if_pos rfl],cur,e,b1,b2,by rw [bxs_len];exact b3,by rw [bxs_len];exact b4,fun j y hj=>?_⟩
   obtain ⟨c,c1,c2⟩:=bxs_get k 0 ks cs j y hj
   obtain ⟨q,q1,q2,q3⟩:=b5 j c c1
   refine ⟨q,q1,q2,?_⟩
   rcases c2 with rfl | ⟨x,rfl,rfl⟩
   ·exact jea (fun m _=>hs m) q3
   ·exact ⟨⟨_,hf,by rw [←hw,Nat.zero_add,cell_of_row w _ _ cur e (0,0) b1];exact q1⟩,q3⟩
  ·exact ⟨b,by show hlk (hset st.h n _) k=_;rw [jga,if_neg hkn];exact h1,jhb hs rfl rfl rfl h2⟩
 ·obtain ⟨h1,h2,h3⟩:=H.B.fix k b' hf'
  refine ⟨h1,h2,fun hS=>?_⟩
  obtain ⟨ds,hc⟩:=h3 hS
  by_cases hkn:k=n
  ·subst hkn;exact ⟨_,by show hlk (hset st.h k _) k=_;rw [jga,if_pos rfl]⟩
  ·exact ⟨ds,by show hlk (hset st.h n _) k=_;rw [jga,if_neg hkn];exact hc⟩
theorem bxH_inv (hw:w=R.w0):∀(ms:List Mode) (s:Nat) (st:St),Inv C R G st a w→(∀n∈jxa s ms,R.fix n=some (G.base n))→Inv C R G { st with h:=bxH s ms st.h } a w
 | [],s,st,H,_=>H
 | m :: ms,s,st,H,hf=>by
  cases m with
  | ptr ks =>
   simp only [bxH]
   split
   ·rename_i cs hb
    exact bxH_inv hw ms (s+1) _ (bx_inv H hw (hf _ (by simp [jxa])) hb) (fun n hn=>hf n (by simp [jxa,hn]))
   ·exact bxH_inv hw ms (s+1) st H (fun n hn=>hf n (by simp [jxa,hn]))
  | _=>exact bxH_inv hw ms (s+1) st H hf
theorem noPtr_names:∀{ms:List Mode} {s:Nat},noPtr ms=true→jxa s ms=[]
 | [],s,_=>rfl
 | m :: ms,s,h=>by
  have h':noPtr ms=true:=by cases m<;>first | exact h | cases h
  cases m with
  | ptr ks=>cases h
  | _=>exact noPtr_names (s:=s+1) h'
theorem jxq {P:Program} {sig:Nat→Sig} {F:Nat→List DV→Bool × List DV × List (List D)} {k f:Nat} {fn:Func} {c:Code} (hC:CtxOk ⟨P,sig,F,(sig f).keep,(sig f).ord⟩) (hfn:P.funcs[f]? = some fn) (hbody:fn.body=some c) (hchk:jha (sig f).ord fn.ntmps (ioIx 0 (sig f).ms) c=true) (hsg:jvr P (sig f)):SpecOk P (sig f) (evalBody P sig F k f) f:=by
 intro R xs vs Θ rs outs hF hfix hpre
 unfold evalBody at hF
 rw [hfn] at hF
 dsimp only at hF
 rw [hbody] at hF
 dsimp only at hF
 split at hF
 ·rename_i svs h hinit
  split at hF
  ·rename_i st hadds
   let C:Ctx:=⟨P,sig,F,(sig f).keep,(sig f).ord⟩
   let a0:Act:={ tmps:=vs.toArray++Array.replicate (fn.ntmps - vs.toArray.size) undef,defers:=[] }
   -- the beginning
   have H0:Inv C R ⟨fun _=>False,fun _=>(0,0),fun _=>undef,fun _ _=>False⟩ ⟨List.replicate C.keep.length .undef,[],[]⟩ a0 R.w0 :=
    ⟨hpre.W,⟨fun n hn=>hn.elim,fun n m hn=>hn.elim,fun n hn=>hn.elim,fun n b hb=>by rw [hfix] at hb;cases hb⟩,fun _ _ _=>id,fun t=>by unfold jma;simp only [lk,jnf];trivial,fun t q c v h=>(by cases h),by simp⟩
   obtain ⟨G2,i1,i2,i3,i4,i5⟩:=jev (C:=C) rfl (sig f).ms 0 xs vs Θ svs h _ _ _ hinit hpre.args H0 hpre.mine hpre.lb hpre.apart (fun _ _ _ _ _ hl=>hl.elim) (jvx (List.replicate C.keep.length .undef) [] hadds)
   obtain ⟨_,hm,hl⟩:=jgk hadds
   have hm':st.m=initM (sig f).keep svs:=hm
   have hl':st.l=[]:=hl
   have hborn:=jfj i5
   let Rf:=R.fixed (jej G2 (jxa 0 (sig f).ms))
   have hslots:∀t,jma C Rf G2 st a0 t:=fun t=>by
    unfold jma
    rw [hl',hm']
    simp only [lk]
    show VRel Rf G2 st.h (lkm (sig f).keep (initM (sig f).keep svs) t) _
    refine vrel_fixed hfix ?_
    rw [jer,jbx]
    split
    ·cases ht:svs[t]? with
     | none=>trivial
     | some x =>
      obtain ⟨u,h1,h2⟩:=i3.2 t x ht
      have:a0.tmps.getD t undef=u:=by
       have hlt:t < vs.length:=(List.getElem?_eq_some_iff.1 h1).1
       show (vs.toArray++Array.replicate (fn.ntmps - vs.toArray.size) undef).getD t undef=u
       rw [Array.getD_eq_getD_getElem?,Array.getElem?_append_left (by simpa using hlt)]
       simp [h1]
      rw [this]
      exact h2
    ·trivial
   have H1:Inv C Rf G2 st a0 R.w0 :=
    ⟨jgv i1.W,⟨fun n hn hS=>by obtain ⟨b,h1,h2⟩:=i1.B.rel n hn hS;exact ⟨b,h1,brel_fixed hfix h2⟩,i1.B.disj,i1.B.mine,fun n b hb=>by
     show G2.live n∧G2.base n=b∧_
     have hb':jej G2 (jxa 0 (sig f).ms) n=some b:=hb
     unfold jej at hb'
     split at hb'
     ·rename_i hn
      cases hb'
      exact ⟨(hborn n hn).1,rfl,fun _=>(hborn n hn).2⟩
     ·cases hb'⟩,fun _ _ _=>id,hslots,by rw [hl'];exact fun t q c v h=>(by cases h),by rw [hm',jsp]⟩
   have H2:=bxH_inv rfl (sig f).ms 0 st H1 (fun n hn=>by show jej G2 (jxa 0 (sig f).ms) n=_;simp [jej,hn])
   refine calls_of_wp hfn hbody ?_
   show c.wp P _ a0 R.w0
   -- the way out
   have out:∀{ex:Ex} {st':St},(ex=.normal∨ex=.ret)→(match resVs C st' fn.results.toList with
     | some vs=>if jzn (sig f).ms then jsv C (sig f) st' vs else (match resOfs (sig f).ms st' (sig f).r vs with
      | some (rs,st1)=>(match outsOf 0 st1 (sig f).ms with | some (outs,_)=>some (rs,outs) | none=>none)
      | none=>none)
     | none=>none)=some (rs,outs)→∀a' w',jzd C Rf a0.tmps.size (ioIx 0 (sig f).ms) a0 st' a' w'→a'.defers=[]∧∃v,(results fn a'.tmps).run P w'=.ok v w'∧∃rv Ξ Ω,Ending.returned v=.returned (jke rv)∧Post P (sig f) R vs rs outs rv w' Ξ Ω:=by
    intro ex st' _ hres a' w' ⟨G,H,hl0,hsz,hdef⟩
    split at hres
    ·rename_i us hus
     obtain ⟨rv,r1,r2,r3⟩:=jfm H hus
     split at hres
     ·refine ⟨hdef.1,jke rv,jqm r1 r2,?_⟩
      unfold jsv at hres
      split at hres
      ·rename_i zs hr
       split at hres
       ·rename_i hck
        simp only [Bool.and_eq_true] at hck
        split at hres
        ·rename_i rs1 outs1 hrs hou
         cases hres
         have hnd:=jtk hck.1
         rw [jdo] at hnd
         have hval:∀(i:Nat) ks v,(sig f).ms[i]? = some (.io ks)→vs[i]? = some v→VRel Rf G st'.h (lkm C.keep st'.m (0+i)) v:=fun i ks v h1 h2=>by
          have h3:=H.slots i
          unfold jma at h3
          rw [hl0] at h3
          simp only [lk] at h3
          have h4:=hdef.2 (0+i) (jws h1)
          rw [Nat.zero_add] at h4 ⊢
          have h5:a0.tmps[i]? = some v:=by
           have hlt:i < vs.length:=(List.getElem?_eq_some_iff.1 h2).1
           show (vs.toArray++Array.replicate (fn.ntmps - vs.toArray.size) undef)[i]? = some v
           rw [Array.getElem?_append_left (by simpa using hlt)]
           simpa using h2
          rw [h5] at h4
          rw [Array.getD_eq_getD_getElem?,h4] at h3
          exact h3
         obtain ⟨o1,o2⟩:=jhk (R:=Rf) H (sig f).ms 0 vs _ (thI G (sig f).ms (parS C st' 0 (sig f).ms)) hck.2 (fun ks hk=>hsg.1 ks (.inr hk)) hval (jzq hpre.args) hou (fun _ _ _=>Iff.rfl)
         refine ⟨rv,fun _ _ _=>False,_,rfl,jno H.W,by rw [hr];exact juj (jwh hrs r3),jde o1,fun _ _ _ h=>h.elim,fun i j k ⟨j',n,_,hp,hφ⟩=>H.B.mine n (o2 _ _ _ hp).1 id k hφ,fun i j k ⟨j',n,_,hp,hφ⟩ lo hi hlb=>?_,fun _ _ _ _ _ h=>h.elim,fun i j i' j' k ⟨q,n,e1,hp,hφ⟩ ⟨q',n',e1',hp',hφ'⟩=>?_,fun _ _ _ _ _ h=>h.elim⟩
         ·obtain ⟨hlv,e,sz,ys,hrow⟩:=o2 _ _ _ hp
          obtain ⟨b,hb,hbr⟩:=H.B.rel n hlv id
          rw [hrow] at hb;cases hb
          exact hbr.2.2.2 k lo hi hφ hlb
         ·have:n=n':=Classical.byContradiction fun hne=>H.B.disj n n' (o2 _ _ _ hp).1 id (o2 _ _ _ hp').1 id hne k hφ hφ'
          subst this
          obtain ⟨e2,e3⟩:=jgn hnd hp hp'
          exact ⟨e2,by omega⟩
        ·cases hres
       ·cases hres
      ·cases hres
     split at hres
     ·rename_i rs' st1 hro
      split at hres
      ·rename_i outs' st2 hou
       cases hres
       refine ⟨hdef.1,jke rv,jqm r1 r2,?_⟩
       have hK:∃G1 Ξ,Inv C Rf G1 st1 a' w'∧Gle G1 G∧ResK P R w' (sig f).r rs rv Ξ∧(∀i j k,Ξ i j k→k < w'.heap.size∧(R.L k∨R.w0.heap.size≤k)∧∀lo hi,¬ R.LB k lo hi)∧jic Ξ∧(∀i j k n,Ξ i j k→G1.live n→G1.φ n k→False):=by
        cases hr:(sig f).r with
        | sc zs =>
         rw [hr] at hro
         simp only [resOfs] at hro
         split at hro
         ·rename_i rr hrr
          cases hro
          exact ⟨G,fun _ _ _=>False,H,Gle.refl G,juj (jwh hrr r3),fun _ _ _ h=>h.elim,fun _ _ _ _ _ h=>h.elim,fun _ _ _ _ h=>h.elim⟩
         ·cases hro
        | fresh kss =>
         rw [hr] at hro
         simp only [resOfs] at hro
         obtain ⟨G1,Ξ,q1,q2,_,q4,q5,q6,_,q8⟩:=jai (G0:=G) (h0:=st'.h) kss us rv st' G rs st1 H (Gle.refl G) (Has.refl _ _) (fun ks hk=>hsg.2 kss (.inl hr) ks hk) r3 hro
         exact ⟨G1,Ξ,q1,q2,jhe q4,q5,q6,q8⟩
        | freshT zs kss =>
         rw [hr] at hro
         simp only [resOfs] at hro
         split at hro
         ·rename_i rs2 st2 hfr
          split at hro
          ·rename_i b hb
           split at hro
           ·rename_i hsh
            cases hro
            obtain ⟨G1,Ξ,q1,q2,_,q4,q5,q6,_,q8⟩:=jai (G0:=G) (h0:=st'.h) kss us rv st' G rs st1 H (Gle.refl G) (Has.refl _ _) (fun ks hk=>hsg.2 kss (.inr (.inl ⟨zs,hr⟩)) ks hk) r3 hfr
            obtain ⟨us',e1⟩:=joq (jhe q4) hb
            exact ⟨G1,Ξ,q1,q2,⟨b,us',hb,e1,jzi (jhe q4) hsh,fun _=>jhe q4⟩,q5,q6,q8⟩
           ·cases hro
          ·cases hro
         ·split at hro
          ·rename_i hck
           cases hro
           simp only [Bool.and_eq_true] at hck
           obtain ⟨us',e1⟩:=joo r3 hck.1.1
           have hz:jvb rs=some false:=by
            have:=hck.1.2
            unfold lastN at this
            split at this
            ·assumption
            ·cases this
           exact ⟨G,fun _ _ _=>False,H,Gle.refl G,⟨false,us',hz,e1,jen r3 hck.2,fun h=>(by cases h)⟩,fun _ _ _ h=>h.elim,fun _ _ _ _ _ h=>h.elim,fun _ _ _ _ h=>h.elim⟩
          ·cases hro
        | nptr ks =>
         rw [hr] at hro
         match us,r3,hro with
         | [],_,hro=>simp [resOfs] at hro
         | _ :: _ :: _,_,hro=>simp [resOfs] at hro
         | [x],r3,hro =>
          obtain ⟨u,rv',rfl,hx,hnil⟩:=r3.tail
          have hrv:rv'=[]:=List.eq_nil_of_length_eq_zero (by simpa using hnil.1)
          subst hrv
          have hx':∃n,x=.ptr n 0:=by
           cases x with
           | ptr n o =>
            cases o with
            | zero=>exact ⟨n,rfl⟩
            | succ o=>simp [resOfs] at hro
           | _=>simp [resOfs] at hro
          obtain ⟨n,rfl⟩:=hx'
          simp only [resOfs] at hro
          split at hro
          ·rename_i hnp
           unfold resNp at hro
           split at hro
           ·rename_i cs hbox
            split at hro
            ·rename_i ds st2 htk
             cases hro
             have hfixn:Rf.fix n=none:=by
              show jej G2 (jxa 0 (sig f).ms) n=none
              rw [noPtr_names hnp];simp [jej]
             obtain ⟨hl0,hu⟩:=hx
             obtain ⟨b,hb',hbr⟩:=H.B.rel n hl0 id
             rw [hbox] at hb';cases hb'
             obtain ⟨cur,e,b1,b2,b3,b4,b5⟩:=hbr
             have hmn:=H.B.mine n hl0 id _ b2
             have hcells:jla Rf G st'.h cs ((cur.toList.drop (G.base n).2).take cs.length):=⟨by simp;omega,fun j y hj=>by
              obtain ⟨q,q1,q2,q3⟩:=b5 j y hj
              refine ⟨q,?_,q2,q3⟩
              rw [List.getElem?_take,if_pos (List.getElem?_eq_some_iff.1 hj).1,List.getElem?_drop]
              simpa using q1⟩
             obtain ⟨G1,θ,i1,i2,i8,i3,i4,i5,i6,i7,i9,i10,i11⟩:=jrb (G0:=G) (h0:=st'.h) ks cs _ (st'.give n) (G.drop n) ds st1 (give_box H hbox hfixn) ((Gle.refl G).drop n) (jyr G n) (fun e' sz' hm=>hsg.2 [ks] (.inr (.inr ⟨ks,rfl,hr⟩)) ks (by simp) e' sz' hm) hcells htk
             have hnl:∀m,G1.live m→m≠n:=fun m hm=>(i2.1 m hm).2
             refine ⟨G1,fun i j k=>i=0∧(match j with | 0=>k=(G.base n).1 | j+1=>θ j k),i1,i2.trans ((Gle.refl G).drop n),⟨ds,(G.base n).1,(G.base n).2,cur,e,(cur.toList.drop (G.base n).2).take cs.length,rfl,?_,b1,⟨rfl,rfl⟩,?_,fun j v hj=>?_,?_,hpre.noLB hnp _⟩,fun i j k h=>?_,fun i j i' j' k h h'=>?_,fun i j k m h hm hφ=>?_⟩
             ·rw [hu];rfl
             ·rw [←i3.2.1];simp;omega
             ·rw [List.getElem?_take] at hj
              split at hj
              ·rw [List.getElem?_drop] at hj;simpa using hj
              ·cases hj
             ·refine ⟨i3.1,i3.2.1,fun j k d v a1 a2 a3=>?_⟩
              obtain ⟨c1,c2⟩:=i3.2.2 j k d v a1 a2 a3
              refine ⟨c1,?_⟩
              cases k with
              | none=>exact c2
              | some p=>obtain ⟨xs',c3,c4,c5⟩:=c2;exact ⟨xs',c3,by simpa using c4,c5⟩
             ·obtain ⟨rfl,h⟩:=h
              cases j with
              | zero =>
               have h:k=(G.base n).1:=h
               subst h
               exact ⟨hmn.1,hmn.2,hpre.noLB hnp _⟩
              | succ j=>exact i4 j k h
             ·obtain ⟨rfl,h⟩:=h
              obtain ⟨rfl,h'⟩:=h'
              refine ⟨rfl,?_⟩
              have cross:∀{j:Nat},k=(G.base n).1→θ j k→False:=fun e1 e2=>by
               obtain ⟨m,m1,m2⟩:=i6 _ _ e2
               subst e1
               exact H.B.disj n m hl0 id m1.1.1 id (fun e=>m1.1.2 e.symm) _ b2 m2
              cases j with
              | zero =>
               cases j' with
               | zero=>rfl
               | succ j'=>exact (cross h h').elim
              | succ j =>
               cases j' with
               | zero=>exact (cross h' h).elim
               | succ j'=>rw [i5 j j' k h h']
             ·obtain ⟨rfl,h⟩:=h
              cases j with
              | zero =>
               have h:k=(G.base n).1:=h
               subst h
               have hm':=i2.1 m hm
               rw [i2.2.2.2] at hφ
               exact H.B.disj n m hl0 id hm'.1 id (fun e=>hm'.2 e.symm) _ b2 hφ
              | succ j=>exact i7 j k m h hm id hφ
            ·cases hro
           ·cases hro
          ·cases hro
        | ep zs =>
         rw [hr] at hro
         match us,r3,hro with
         | [x],r3,hro =>
          simp only [resOfs] at hro
          split at hro
          ·rename_i b ds hep
           cases hro
           obtain ⟨u,rv',rfl,hx,hnil⟩:=r3.tail
           have hrv:rv'=[]:=List.eq_nil_of_length_eq_zero (by simpa using hnil.1)
           subst hrv
           exact ⟨G,fun _ _ _=>False,H,Gle.refl G,⟨b,ds,u,rfl,rfl,epD_ok hep hx⟩,fun _ _ _ h=>h.elim,fun _ _ _ _ _ h=>h.elim,fun _ _ _ _ h=>h.elim⟩
          ·cases hro
         | [],_,hro=>simp [resOfs] at hro
         | _ :: _ :: _,_,hro=>simp [resOfs] at hro
       obtain ⟨G1,Ξ,q1,q2,q3,q4,q5,q6⟩:=hK
       have hpl:Places G1 0 (sig f).ms vs:=jak (fun n hn=>by
        obtain ⟨_,h2,_⟩:=q1.B.fix n (G2.base n) (by show jej G2 (jxa 0 (sig f).ms) n=_;simp [jej,hn])
        exact h2) i4
       obtain ⟨G',Ω,o1,o2,o3,o4,o5,o6,o7,o8,o9⟩:=jyg (R:=Rf) (sig f).ms 0 vs st1 G1 outs st2 q1 (fun ks hk=>hsg.1 ks (.inl (.inl hk))) (jfn fun _ h=>h) hpl hou
       exact ⟨rv,Ξ,Ω,rfl,jno q1.W,q3,jde o3,q4,o4,o5,q5,o6,fun i j i' j' k h1 h2=>by
        obtain ⟨n,n1,n2⟩:=o7 _ _ _ h2
        exact q6 i j k n h1 n1 n2⟩
      ·cases hres
     ·cases hres
    ·cases hres
   cases hden:den C k c { st with h:=bxH 0 (sig f).ms st.h } with
   | none=>rw [hden] at hF;simp [fin] at hF
   | some r =>
    obtain ⟨ex,st'⟩:=r
    rw [hden] at hF
    have hsz0:fn.ntmps≤a0.tmps.size:=by
     show fn.ntmps≤(vs.toArray++Array.replicate (fn.ntmps - vs.toArray.size) undef).size
     simp
     omega
    refine jox hC a0.tmps.size (ioIx 0 (sig f).ms) a0 k c _ st' ex a0 R.w0 _ hden ⟨G2,H2,hl',rfl,jsa.refl _ _⟩ (jqt hsz0 hchk) (fun a' w' hA=>?_)
    cases ex with
    | normal=>exact out (ex:=.normal) (.inl rfl) hF a' w' hA
    | ret=>exact out (ex:=.ret) (.inr rfl) hF a' w' hA
    | exit i=>simp [fin] at hF
  ·cases hF
 ·cases hF
end Go.Den

/- All functions together. -/
namespace Go.Den
open Go

abbrev Rs:=Option (List DV × List (List D))
def Gd (G:Nat→List DV→Bool × List DV × List (List D)) (dep:Nat→Nat) (d f:Nat) (xs:List DV):Bool × List DV × List (List D):=if dep f < d then G f xs else (false,[],[])
def FnOk (P:Program) (sig:Nat→Sig) (f:Nat):Prop :=
 ∃fn c,P.funcs[f]? = some fn∧fn.body=some c∧(fn.name == "runtime.NumGoroutine")=false∧jha (sig f).ord fn.ntmps (ioIx 0 (sig f).ms) c=true∧jvr P (sig f)
def eOkB (P:Program) (k:Option (Nat × Nat)):Bool :=
 match k with
 | none=>true
 | some (e,sz)=>if e=wk then decide (0 < sz) else match P.info? e with | some i=>decide (i.size=sz)&&decide (0 < sz) | none=>false
def jbt (P:Program) (sg:Sig):Bool :=
 (sg.ms.all fun m=>match m with | .ptr ks=>ks.all (eOkB P) | .own ks=>ks.all (eOkB P) | .io ks=>ks.all (eOkB P) | _=>true) &&
 (match sg.r with | .fresh kss=>(kss.all fun ks=>ks.all (eOkB P)) | .freshT _ kss=>(kss.all fun ks=>ks.all (eOkB P)) | .nptr ks=>ks.all (eOkB P) | _=>true)
def fnOkB (P:Program) (sig:Nat→Sig) (f:Nat):Bool :=
 match P.funcs[f]? with
 | some fn=>(match fn.body with
  | some c=>!(fn.name == "runtime.NumGoroutine")&&jha (sig f).ord fn.ntmps (ioIx 0 (sig f).ms) c&&jbt P (sig f)
  | none=>false)
 | none=>false
theorem jio {P:Program} {ks:List (Option (Nat × Nat))} (h:ks.all (eOkB P)=true):KOk P ks:=fun e sz hm=>by
 have:=List.all_eq_true.1 h _ hm
 unfold eOkB at this
 dsimp only at this
 split at this
 ·rename_i hwk;exact ⟨.inl hwk,by simpa using this⟩
 split at this
 ·rename_i i hi
  simp only [Bool.and_eq_true,decide_eq_true_eq] at this
  exact ⟨.inr ⟨i,hi,this.1⟩,this.2⟩
 ·cases this
theorem jfz {P:Program} {sg:Sig} (h:jbt P sg=true):jvr P sg:=by
 simp only [jbt,Bool.and_eq_true,List.all_eq_true] at h
 refine ⟨fun ks hk=>?_,fun kss hr ks hk=>?_⟩
 ·rcases hk with (hk | hk) | hk
  ·exact jio (h.1 _ hk)
  ·exact jio (h.1 _ hk)
  ·exact jio (h.1 _ hk)
 ·have:=h.2
  rcases hr with hr | ⟨_,hr⟩ | ⟨ks',rfl,hr⟩
  ·rw [hr] at this;exact jio (List.all_eq_true.2 fun x hx=>(List.all_eq_true.1 this ks hk |> fun h=>List.all_eq_true.1 h x hx))
  ·rw [hr] at this;exact jio (List.all_eq_true.2 fun x hx=>(List.all_eq_true.1 this ks hk |> fun h=>List.all_eq_true.1 h x hx))
  ·rw [hr] at this;simp only [List.mem_singleton] at hk;subst hk;exact jio this
theorem fnOk_of {P:Program} {sig:Nat→Sig} {f:Nat} (h:fnOkB P sig f=true):FnOk P sig f:=by
 unfold fnOkB at h
 split at h
 ·rename_i fn hfn
  split at h
  ·rename_i c hc
   simp only [Bool.and_eq_true,Bool.not_eq_true'] at h
   exact ⟨fn,c,hfn,hc,h.1.1,h.1.2,jfz h.2⟩
  ·cases h
 ·cases h
theorem G_ctx {P:Program} {sig:Nat→Sig} {G:Nat→List DV→Bool × List DV × List (List D)} {dep:Nat→Nat} {k:Nat} (hm:P.follows .mixedOrders=true)
  (hG:∀f xs r,opt (G f xs)=some r→FnOk P sig f∧evalBody P sig (Gd G dep (dep f)) k f xs=some r) (keep:List Nat) (ord:List (Nat × List (Nat × Nat × List Nat))):∀d,CtxOk ⟨P,sig,Gd G dep d,keep,ord⟩:=by
 intro d
 induction d using Nat.strongRecOn generalizing keep ord with
 | _ d ih =>
  have mem:∀{f:Nat} {xs:List DV} {r:List DV × List (List D)},opt (Gd G dep d f xs)=some r→dep f < d∧opt (G f xs)=some r:=fun {f xs r} h=>by
   unfold Gd at h
   split at h
   ·rename_i hd;exact ⟨hd,h⟩
   ·simp [opt] at h
  refine ⟨fun f R xs vs Θ rs outs hF=>?_,fun f xs r hF=>?_,fun f xs r hF=>?_,hm⟩
  ·obtain ⟨h1,h2⟩:=mem hF
   obtain ⟨⟨fn,c,e1,e2,e3,e4,e5⟩,h3⟩:=hG f xs _ h2
   exact jxq (ih (dep f) h1 (sig f).keep (sig f).ord) e1 e2 e4 e5 R xs vs Θ rs outs h3
  ·obtain ⟨⟨fn,c,e1,e2,e3,_⟩,_⟩:=hG f xs r (mem hF).2
   exact ⟨fn,c,e1,e2,e3⟩
  ·obtain ⟨⟨fn,c,_,_,_,_,e5⟩,_⟩:=hG f xs r (mem hF).2
   exact e5
theorem G_spec {P:Program} {sig:Nat→Sig} {G:Nat→List DV→Bool × List DV × List (List D)} {dep:Nat→Nat} {k:Nat} (hm:P.follows .mixedOrders=true)
  (hG:∀f xs r,opt (G f xs)=some r→FnOk P sig f∧evalBody P sig (Gd G dep (dep f)) k f xs=some r) (f:Nat):SpecOk P (sig f) (fun xs=>opt (G f xs)) f:=fun R xs vs Θ rs outs hF=>by
 obtain ⟨⟨fn,c,e1,e2,e3,e4,e5⟩,h3⟩:=hG f xs _ hF
 exact jxq (G_ctx hm hG (sig f).keep (sig f).ord (dep f)) e1 e2 e4 e5 R xs vs Θ rs outs h3
end Go.Den

/- From a function's promise to a law's row: arguments that can be read are data. -/
namespace Go.Den
open Go Go.ChangeShapes Go.WideShapes Go.RowKit

inductive Sh where
 | b | i (k:IntKind) | s | l (e:List Sh)
mutual
def typD:Sh→D→Prop
 | .b,d=>∃x,d=.b x
 | .i k,d=>∃n,d=.i k n∧(Lit.int k n).wf=true
 | .s,d=>∃x,d=.s x∧x.size≤maxLen
 | .l es,d=>∃xs,d=.l xs∧xs.length≤maxLen∧∀r∈xs,typL es r
def typL:List Sh→List D→Prop
 | [],ds=>ds=[]
 | e :: es,ds=>∃d r,ds=d :: r∧typD e d∧typL es r
end
def shFs (f:TypeId→Option (List Sh)) (P:Program):Nat→List Field→Option (List Sh)
 | n,[]=>some []
 | n,x :: xs=>if x.offset=n then (match f x.type with
  | some es=>if P.cellsOf x.type=es.length then (match shFs f P (n+es.length) xs with | some r=>some (es++r) | none=>none) else none
  | none=>none) else none
def shOf (P:Program):Nat→TypeId→Option (List Sh)
 | 0,_=>none
 | d+1,t=>match P.underlying t with
  | some .bool=>some [.b]
  | some (.int k)=>some [.i k]
  | some .string=>some [.s]
  | some (.slice e)=>(match shOf P d e with | some (x :: xs)=>if P.cellsOf e=(x :: xs).length then some [.l (x :: xs)] else none | _=>none)
  | some (.struct fs)=>(match shFs (shOf P d) P 0 fs.toList with | some es=>if P.cellsOf t=es.length then some es else none | none=>none)
  | _=>none
def Reps (w:World) (T:Nat→Prop):List D→List Value→Prop
 | [],vs=>vs=[]
 | d :: ds,vs=>∃v r,vs=v :: r∧Rep w T d v∧Reps w T ds r
theorem typL_len:∀{es:List Sh} {ds:List D},typL es ds→ds.length=es.length
 | [],ds,h=>by simp only [typL] at h;rw [h];rfl
 | e :: es,ds,h=>by simp only [typL] at h;obtain ⟨d,r,rfl,_,h⟩:=h;simp [typL_len h]
theorem Reps.len {w:World} {T:Nat→Prop}:∀{ds:List D} {vs:List Value},Reps w T ds vs→vs.length=ds.length
 | [],vs,h=>by simp only [Reps] at h;rw [h];rfl
 | d :: ds,vs,h=>by obtain ⟨v,r,rfl,_,h⟩:=h;simp [h.len]
theorem Reps.get {w:World} {T:Nat→Prop}:∀{ds:List D} {vs:List Value},Reps w T ds vs→∀(j:Nat) d,ds[j]? = some d→∃v,vs[j]? = some v∧Rep w T d v
 | [],vs,h,j,d,hj=>by simp at hj
 | d :: ds,vs,h,j,x,hj=>by
  obtain ⟨v,r,rfl,h1,h2⟩:=h
  cases j with
  | zero=>simp at hj;subst hj;exact ⟨v,rfl,h1⟩
  | succ j=>simpa using h2.get j x (by simpa using hj)
theorem jkm:∀{es es':List Sh} {ds ds':List D},typL es ds→typL es' ds'→typL (es++es') (ds++ds')
 | [],es',ds,ds',h,h'=>by simp only [typL] at h;subst h;simpa using h'
 | e :: es,es',ds,ds',h,h'=>by simp only [typL] at h;obtain ⟨d,r,rfl,h1,h2⟩:=h;simp only [List.cons_append,typL];exact ⟨d,_,rfl,h1,jkm h2 h'⟩
theorem Reps.append {w:World} {T:Nat→Prop}:∀{ds ds':List D} {vs vs':List Value},Reps w T ds vs→Reps w T ds' vs'→Reps w T (ds++ds') (vs++vs')
 | [],ds',vs,vs',h,h'=>by simp only [Reps] at h;subst h;simpa using h'
 | d :: ds,ds',vs,vs',h,h'=>by obtain ⟨v,r,rfl,h1,h2⟩:=h;exact ⟨v,_,rfl,h1,h2.append h'⟩

theorem jdz {w:World} {a:Addr} {n:Nat} {cs:List Value} (h:w.cells? 0 a n=some cs):cs.length=n∧∀j v,cs[j]? = some v→w.cell? (a.add j)=some v:=by
 unfold World.cells? at h
 rw [if_pos (Nat.zero_le _)] at h
 have hl:=mapM_some_length h
 refine ⟨by simpa using hl,fun j v hj=>?_⟩
 have key:∀(l:List Nat) (r:List Value),l.mapM (fun i=>w.cell? (a.add i))=some r→∀(j:Nat) v,r[j]? = some v→∃i,l[j]? = some i∧w.cell? (a.add i)=some v:=by
  intro l
  induction l with
  | nil=>intro r h j v hj;simp at h;subst h;simp at hj
  | cons i l ih =>
   intro r h j v hj
   simp only [List.mapM_cons,Option.bind_eq_bind,Option.bind_eq_some_iff] at h
   obtain ⟨x,h1,r',h2,h3⟩:=h
   simp at h3
   subst h3
   cases j with
   | zero=>simp at hj;subst hj;exact ⟨i,rfl,h1⟩
   | succ j=>simpa using ih r' h2 j v (by simpa using hj)
 obtain ⟨i,h1,h2⟩:=key _ _ h j v hj
 have:j < n:=by have:=(List.getElem?_eq_some_iff.1 h1).1;simpa using this
 rw [List.getElem?_range this] at h1
 cases h1
 exact h2
theorem jyx {w:World} {a:Addr} {v:Value} (h:w.cell? a=some v):a.spot=none∧a.block < w.heap.size:=by
 unfold World.cell? at h
 split at h
 ·rename_i c _ _ hb
  split at h
  ·cases h
  ·rename_i hs
   refine ⟨by simpa using hs,?_⟩
   exact (Array.getElem?_eq_some_iff.1 hb).1
 ·cases h
section
variable {H:Type} {enc:TypeId × Value→H} {P:Program} {w:World} {spare:Nat→Bool} {held:Bool}
theorem read_fs {f:TypeId→Option (List Sh)} {m:Nat} (cs:List Value) (T:Nat→Prop)
  (ih:∀t es cs x,f t=some es→DataW.trod enc P w 0 spare held m t cs=some x→∃ds,typL es ds∧Reps w T ds cs):∀(fs:List Field) (n:Nat) (es:List Sh) (xs:List (DataW H × List MemPlace)),shFs f P n fs=some es→n+es.length=cs.length →
  (∀(j:Nat) q,fs[j]? = some q→∃y,DataW.trod enc P w 0 spare held m q.type ((cs.drop q.offset).take (P.cellsOf q.type))=some y)→∃ds,typL es ds∧Reps w T ds (cs.drop n):=by
 intro fs
 induction fs with
 | nil =>
  intro n es xs h hl _
  simp only [shFs,Option.some.injEq] at h
  subst h
  refine ⟨[],by simp [typL],?_⟩
  simp only [Reps]
  simp at hl
  exact List.drop_eq_nil_of_le (by omega)
 | cons q fs ihf =>
  intro n es xs h hl hread
  simp only [shFs] at h
  split at h
  ·rename_i ho
   split at h
   ·rename_i e1 h1
    split at h
    ·rename_i hc
     split at h
     ·rename_i r hr
      cases h
      obtain ⟨y,hy⟩:=hread 0 q rfl
      obtain ⟨ds1,d1,d2⟩:=ih _ _ _ _ h1 hy
      obtain ⟨ds2,d3,d4⟩:=ihf (n+e1.length) r xs hr (by simp at hl;omega) (fun j q' hj=>hread (j+1) q' (by simpa using hj))
      refine ⟨ds1++ds2,jkm d1 d3,?_⟩
      rw [ho,hc] at d2
      have:=d2.append d4
      rwa [←List.drop_drop,List.take_append_drop] at this
     ·cases h
    ·cases h
   ·cases h
  ·cases h
theorem jyy:∀(d:Nat) (t:TypeId) (es:List Sh) (fuel:Nat) (cs:List Value) (x:DataW H × List MemPlace),shOf P d t=some es→DataW.trod enc P w 0 spare held fuel t cs=some x→∃ds,typL es ds∧Reps w (fun k=>k < w.heap.size) ds cs:=by
 intro d
 induction d with
 | zero=>intro t es fuel cs x h;simp [shOf] at h
 | succ d ih =>
  intro t es fuel cs x h hr
  simp only [shOf] at h
  split at h
  ·rename_i ht
   cases h
   obtain ⟨b,rfl,_⟩:=DataW.trod_bool ht hr
   exact ⟨[.b b],by simp [typL,typD],.bool b,[],rfl,.b b,rfl⟩
  ·rename_i k ht
   cases h
   obtain ⟨n,rfl,_,hw⟩:=DataW.trod_int ht hr
   exact ⟨[.i k n],by simp [typL,typD,hw],.int k n,[],rfl,.i k n,rfl⟩
  ·rename_i ht
   cases h
   obtain ⟨s,rfl,_,hs⟩:=DataW.trod_string ht hr
   exact ⟨[.s s],by simp [typL,typD,hs],.string s,[],rfl,.s s,rfl⟩
  ·rename_i e ht
   split at h
   ·rename_i ex exs he
    split at h
    ·rename_i hc
     cases h
     generalize hes:ex :: exs=es' at he hc ⊢
     rcases DataW.trod_slice ht hr with ⟨rfl,_⟩ | ⟨a,len,cap,elems,rest,m,_,rfl,_,_,hl,hm,hlen,hel,_,_⟩
     ·exact ⟨[.l []],by simp [typL,typD],_,[],rfl,.nil _ _,rfl⟩
     ·-- the elements
      have hrow:∀i,i < len→∃ds,typL es' ds∧∃us:List Value,Reps w (fun k=>k < w.heap.size) ds us∧∀j u,us[j]? = some u→w.cell? ((a.add (i * P.cellsOf e)).add j)=some u:=fun i hi=>by
       have h1:=hel i hi
       have h2:elems[i]? = some elems[i]:=List.getElem?_eq_getElem (by omega)
       rw [h2,Option.bind_eq_some_iff] at h1
       obtain ⟨us,h3,h4⟩:=h1
       obtain ⟨ds,d1,d2⟩:=ih _ _ _ _ _ he h4
       exact ⟨ds,d1,us,d2,(jdz h3).2⟩
      have hall:∀n,n≤len→∃rows:List (List D),rows.length=n∧∀i r,rows[i]? = some r→typL es' r∧∃us:List Value,Reps w (fun k=>k < w.heap.size) r us∧∀j u,us[j]? = some u→w.cell? ((a.add (i * P.cellsOf e)).add j)=some u:=by
       intro n
       induction n with
       | zero=>intro _;exact ⟨[],rfl,fun i r h=>by simp at h⟩
       | succ n ihn =>
        intro hn
        obtain ⟨rows,h1,h2⟩:=ihn (by omega)
        obtain ⟨ds,d1,us,d2,d3⟩:=hrow n (by omega)
        refine ⟨rows++[ds],by simp [h1],fun i r hi=>?_⟩
        by_cases hin:i < n
        ·rw [List.getElem?_append_left (by omega)] at hi;exact h2 i r hi
        ·have:i=n:=by
          have:=(List.getElem?_eq_some_iff.1 hi).1
          simp at this;omega
         subst this
         rw [List.getElem?_append_right (by omega),h1] at hi
         simp at hi
         subst hi
         exact ⟨d1,us,d2,d3⟩
      obtain ⟨rows,hrl,hrows⟩:=hall len (Nat.le_refl _)
      refine ⟨[.l rows],?_,_,[],rfl,?_,rfl⟩
      ·simp only [typL,typD]
       exact ⟨.l rows,[],rfl,⟨rows,rfl,by omega,fun r hr=>by
        obtain ⟨i,hi⟩:=List.getElem?_of_mem hr
        exact (hrows i r hi).1⟩,rfl⟩
      ·by_cases hne:rows=[]
       ·subst hne
        simp at hrl
        subst hrl
        exact .nil _ _
       ·obtain ⟨r0,hr0⟩:∃r,rows[0]? = some r:=by
         cases rows with
         | nil=>exact absurd rfl hne
         | cons r rs=>exact ⟨r,rfl⟩
        have hspot:a.spot=none∧a.block < w.heap.size:=by
         obtain ⟨h1,us,h2,h3⟩:=hrows 0 r0 hr0
         have hl1:=typL_len h1
         have hl2:=h2.len
         subst hes
         simp only [List.length_cons] at hl1
         obtain ⟨u,hu⟩:∃u,us[0]? = some u:=⟨us[0],by simp⟩
         have:=jyx (h3 0 u hu)
         simpa [Addr.add] using this
        obtain ⟨g,o,sp⟩:=a
        obtain ⟨hsp,hg⟩:=hspot
        simp only at hsp hg
        subst hsp
        have hadd:∀o m,(⟨g,o,none⟩:Addr).add m=⟨g,o+m,none⟩:=fun o m=>by
         unfold Addr.add
         split
         ·rename_i h0;subst h0;rfl
         ·rfl
        have hcells:∀i r,rows[i]? = some r→∃us:List Value,us.length=r.length∧(∀j d,r[j]? = some d→∃u,us[j]? = some u∧Rep w (fun k=>k < w.heap.size) d u∧w.cell? ⟨g,o+i * es'.length+j,none⟩=some u):=fun i r hi=>by
         obtain ⟨_,us,h2,h3⟩:=hrows i r hi
         refine ⟨us,h2.len,fun j d hj=>?_⟩
         obtain ⟨u,hu,hrep⟩:=h2.get j d hj
         refine ⟨u,hu,hrep,?_⟩
         have:=h3 j u hu
         rw [hadd,hadd,hc] at this
         exact this
        rw [←hrl]
        refine .l rows g o cap es'.length (fun i j=>(w.cell? ⟨g,o+i * es'.length+j,none⟩).getD default) hne hg (by omega) (fun r hr=>?_) (fun i r j d hi hj=>?_) (fun i r j d hi hj=>?_)
        ·obtain ⟨i,hi⟩:=List.getElem?_of_mem hr
         exact typL_len (hrows i r hi).1
        ·obtain ⟨us,_,h2⟩:=hcells i r hi
         obtain ⟨u,_,_,h3⟩:=h2 j d hj
         rw [h3];rfl
        ·obtain ⟨us,_,h2⟩:=hcells i r hi
         obtain ⟨u,_,h4,h3⟩:=h2 j d hj
         rw [h3];exact h4
    ·cases h
   ·cases h
  ·rename_i fs ht
   split at h
   ·rename_i es' hf
    split at h
    ·rename_i hc
     cases h
     obtain ⟨xs,m,_,_,hl,hlen,hread⟩:=DataW.trod_struct ht hr
     have:=read_fs (f:=shOf P d) (m:=m) cs (fun k=>k < w.heap.size) (fun t es cs x=>ih t es m cs x) fs.toList 0 es xs hf (by omega) (fun j q hj=>by
      have h2:=hread j q (by simpa using hj)
      have h3:j < xs.length:=by have:=(List.getElem?_eq_some_iff.1 hj).1;simp at this;omega
      exact ⟨xs[j],by rw [h2];exact List.getElem?_eq_getElem h3⟩)
     simpa using this
    ·cases h
   ·cases h
  ·cases h

end
/-! ### arguments -/
def prmOf (P:Program) (t:TypeId):Option (Bool × List Sh) :=
 match shOf P 12 t with
 | some es=>(match P.underlying t with | some (.struct _)=>some (true,es) | some (.array _ _)=>none | some _=>some (false,es) | none=>none)
 | none=>none
def jjl (P:Program):List TypeId→Option (List (Bool × List Sh))
 | []=>some []
 | t :: ts=>match prmOf P t,jjl P ts with | some x,some r=>some (x :: r) | _,_=>none
def typP:Bool × List Sh→DV→Prop
 | (true,es),x=>∃ds,x=.agg ds∧typL es ds
 | (false,es),x=>∃d,x=.one d∧typL es [d]
def typPs:List (Bool × List Sh)→List DV→Prop
 | [],xs=>xs=[]
 | p :: ps,xs=>∃x r,xs=x :: r∧typP p x∧typPs ps r
def borrowed:List TypeId→List Mode | []=>[] | _ :: ts=>.bor :: borrowed ts

theorem jiy {H:Type} {enc:TypeId × Value→H} {P:Program} {W:World} {base:Nat} (R:Rt) (hw:R.w0=W) (hT:R.T=fun k=>k < W.heap.size) (Θ:Nat→Nat→Nat→Prop):∀(ts:List TypeId) (vs:List Value) (ds:List (DataW H)) (ps:List MemPlace) (shs:List (Bool × List Sh)),DataW.TrodAll enc P W 0 (fun _=>true) true ts vs ds ps→jjl P ts=some shs →
  (∀(j:Nat) t v,ts[j]? = some t→vs[j]? = some v→Value.okWide P W .any base t v)→∃xs,typPs shs xs∧jwf P R (borrowed ts) xs vs Θ:=by
 subst hw
 intro ts
 induction ts generalizing Θ with
 | nil =>
  intro vs ds ps shs h hs _
  obtain ⟨rfl,rfl,rfl⟩:=trodAll_nil h
  simp only [jjl,Option.some.injEq] at hs
  subst hs
  exact ⟨[],rfl,trivial⟩
 | cons t ts ih =>
  intro vs ds ps shs h hs hok
  obtain ⟨v,vs',d,ds',p,q,rfl,rfl,rfl,⟨fuel,h1⟩,h2⟩:=trodAll_cons h
  simp only [jjl] at hs
  split at hs
  ·rename_i x r hx hr
   cases hs
   obtain ⟨xs,x1,x2⟩:=ih (fun i=>Θ (i+1)) vs' ds' q r h2 hr (fun j t' v' ht hv=>hok (j+1) t' v' (by simpa using ht) (by simpa using hv))
   have hv:=hok 0 t v rfl rfl
   unfold prmOf at hx
   split at hx
   ·rename_i es hes
    obtain ⟨cells,c1,c2⟩:=jyy _ _ _ _ _ _ hes h1
    rw [←hT] at c2
    split at hx
    ·rename_i fs ht
     cases hx
     unfold Value.okWide at hv
     rw [ht] at hv
     obtain ⟨cs,rfl,hcs,_⟩:=hv
     refine ⟨.agg cells :: xs,⟨_,_,rfl,⟨cells,rfl,c1⟩,x1⟩,⟨cs.toList,by simp,?_,fun j d hj=>?_⟩,x2⟩
     ·have:=c2.len;simpa [Value.cells] using this
     ·obtain ⟨u,hu,hrep⟩:=c2.get j d hj
      exact ⟨u,by simpa [Value.cells] using hu,hrep⟩
    ·cases hx
    ·rename_i td hns hna ht
     cases hx
     have hna:∀cs,v≠.agg cs:=fun cs e=>by
      subst e
      unfold Value.okWide at hv
      rw [ht] at hv
      cases td<;>first | exact hns _ rfl | exact hna _ _ rfl | (simp [Cell.okWide,Cell.ok,ht] at hv)
     have hcell:v.cells.toList=[v]:=by cases v<;>first | rfl | exact absurd rfl (hna _)
     rw [hcell] at c2
     have hl:=c2.len
     obtain ⟨d0,rfl⟩:∃d,cells=[d]:=by
      match cells,hl with
      | [d],_=>exact ⟨d,rfl⟩
     obtain ⟨u,rest,hu,hrep,_⟩:=c2
     cases hu
     exact ⟨.one d0 :: xs,⟨_,_,rfl,⟨d0,rfl,c1⟩,x1⟩,hrep,x2⟩
    ·cases hx
   ·cases hx
  ·cases hs

theorem law_contract {H:Type} {enc:TypeId × Value→H} {P:Program} {f:Nat} {fn:Func} {sg:Sig} {F:List DV→Option (List DV × List (List D))} {zs:List DV} {shs:List (Bool × List Sh)} {tb:TypeId} {s:ChangeSpec}
  (hspec:SpecOk P sg F f) (hms:sg.ms=borrowed fn.params.toList) (hr:sg.r=.sc zs) (hres:fn.resultTypes=#[tb]) (htb:P.underlying tb=some .bool) (K:Kids P (· < P.types.size)) (hfull:∀t e,t < P.types.size→P.underlying t=some (.slice e)→0 < P.cellsOf e) (hpt:∀t∈fn.params.toList,t < P.types.size)
  (hsh:jjl P fn.params.toList=some shs) (hF:∀xs,typPs shs xs→F xs=some ([.one (.b true)],[])) (hvars:s.vars=[])
  (hfn:∀ds:List (DataW H),ds.length=fn.params.size→s.fn H ds={ results:=[.lit (.bool true)],args:=ds })
  (W:World) (base:Nat) (args:Array Value) (ds gs:List (DataW H)) (before:List MemPlace)
  (hval:∀(j:Nat) t v,fn.params[j]? = some t→args[j]? = some v→Value.okWide P W .any base t v)
  (hW:DataW.Whole enc P fn.params.toList s.vars false W args.toList ds gs before) :
  Calls P f args W fun e W'=>∃v,e=.returned v∧s.post enc P fn false true false false W args v W':=by
 have hW':=hW
 obtain ⟨p,q,hA,hV,rfl,_,_⟩:=hW
 rw [hvars] at hV
 obtain ⟨rfl,rfl⟩:=trodVars_none hV
 let R:Rt:=⟨W,fun k=>k < W.heap.size,fun _=>False,fun _ _ _=>False,fun _=>none⟩
 obtain ⟨xs,x1,x2⟩:=jiy (base:=base) R rfl rfl (fun _ _ _=>False) fn.params.toList args.toList ds p shs hA hsh (fun j t v ht hv=>hval j t v (by simpa using ht) (by simpa using hv))
 have pre:Pre P sg R xs args.toList (fun _ _ _=>False):=⟨⟨rfl,rfl,rfl,Nat.le_refl _,fun k hk=>⟨hk,fun h=>h⟩,fun _ _ _=>rfl,fun _ _ _ h=>h.elim⟩,by rw [hms];exact x2,fun _ _ _ h=>h.elim,fun _ _ _ h=>h.elim,fun _ _ _ _ _ h=>h.elim,fun _ _ _ _ h=>h.elim⟩
 have hc:=hspec R xs args.toList (fun _ _ _=>False) _ _ (hF xs x1) rfl pre
 rw [Array.toArray_toList] at hc
 refine hc.mono fun e W' ⟨rv,Ξ,Ω,he,hp⟩=>?_
 subst he
 have hlen:ds.length=fn.params.size:=by
  have key:∀{ts:List TypeId} {vs:List Value} {ds:List (DataW H)} {ps:List MemPlace},DataW.TrodAll enc P W 0 (fun _=>true) true ts vs ds ps→ds.length=ts.length:=by
   intro ts
   induction ts with
   | nil=>intro vs ds ps h;obtain ⟨_,rfl,_⟩:=trodAll_nil h;rfl
   | cons t ts ih=>intro vs ds ps h;obtain ⟨v,vs',d,ds',p,q,rfl,rfl,rfl,_,h2⟩:=trodAll_cons h;simp [ih h2]
  simpa using key hA
 -- the result
 have hres1:rv=[.bool true]:=by
  have:=hp.res
  rw [hr] at this
  match rv,this with
  | [v],⟨h1,_⟩ =>
   obtain ⟨_,h2⟩:=h1
   cases h2
   rfl
 subst hres1
 have old:∀k,k < W.heap.size→W'.heap[k]? = W.heap[k]?:=fun k hk=>hp.W.old k hk (fun h=>h)
 have kept:∀may,W.keptBut W' may:=fun may=>⟨hp.W.os,hp.W.output,fun i hi=>by
  rw [old i hi]
  cases W.heap[i]? with
  | none=>trivial
  | some ob =>
   cases ob with
   | cells c t fr=>obtain ⟨lo,hi'⟩:=fr;exact ⟨rfl,rfl,rfl,fun _ _=>rfl⟩
   | map es clock=>exact .inr ⟨rfl,rfl⟩
   | _=>rfl⟩
 have hlt:=hW'.lt
 have same:∀pl:MemPlace,pl.block < W.heap.size→W.sameAt W' pl:=fun pl hpl=>by
  cases pl with
  | cell b off=>simp only [World.sameAt,World.cell?];rw [old b hpl]
  | map b=>simp only [World.sameAt];exact old b hpl
 have carry:∀{ts:List TypeId} {vs:List Value} {ds:List (DataW H)} {ps:List MemPlace},DataW.TrodAll enc P W 0 (fun _=>true) true ts vs ds ps→(∀pl∈ps,pl.block < W.heap.size)→DataW.TrodAll enc P W' 0 (fun _=>true) true ts vs ds ps:=by
  intro ts
  induction ts with
  | nil=>intro vs ds ps h _;obtain ⟨rfl,rfl,rfl⟩:=trodAll_nil h;exact trodAll_mk0
  | cons t ts ih =>
   intro vs ds ps h hps
   obtain ⟨v,vs',d,ds',p,q,rfl,rfl,rfl,⟨n,h1⟩,h2⟩:=trodAll_cons h
   exact ⟨p,q,⟨n,DataW.trod_carry _ _ _ _ h1 (fun pl hpl=>same pl (hps pl (List.mem_append_left _ hpl)))⟩,ih h2 (fun pl hpl=>hps pl (List.mem_append_right _ hpl)),rfl⟩
 have hargs:=DataW.TrodAll.respare (spare':=fun b=>decide (b < W.heap.size)) K hfull hpt (carry hA (fun pl hpl=>hlt pl (List.mem_append_left _ hpl))) (fun pl hpl=>by simpa using hlt pl (List.mem_append_left _ hpl))
 refine ⟨_,rfl,ds,[],p++[],[],p,[],hW',?_,?_,?_,kept _,fun h=>by cases h⟩
 ·rw [List.append_nil,hfn ds hlen,hres]
  exact trodAll_mk1 (shut_bool htb _)
 ·rw [List.append_nil,hfn ds hlen]
  exact hargs
 ·rw [hvars]
  rw [List.append_nil,hfn ds hlen]
  rfl
end Go.Den
