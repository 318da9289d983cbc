/- The evaluator of Go code over plain data, and its soundness: part 4 of 9. -/
import Derived.Test.YtbmgnecedmcneaaGreatDm3
set_option linter.unusedVariables false
set_option linter.unusedSimpArgs false
/- Append, by the evaluator. -/
namespace Go.Den
open Go
variable {C:Ctx} {R:Rt} {G G0:Gh} {st st1:St} {a:Act} {w w':World} {o:Oper} {v:SV}

theorem jaq (H:WInv R w) (hos:w'.os=w.os) (htape:w'.tape=w.tape) (hout:w'.output=w.output) (hs:w.heap.size≤w'.heap.size) {φ:Nat→Prop} (hφ:∀k,φ k→(R.L k∨R.w0.heap.size≤k)∧∀lo hi,¬ R.LB k lo hi) (hw:∀k,k < w.heap.size→¬ φ k→w'.heap[k]? = w.heap[k]?):WInv R w' where
 os:=hos.trans H.os
 tape:=htape.trans H.tape
 output:=hout.trans H.output
 size:=Nat.le_trans H.size hs
 T:=H.T
 old:=fun k hk hL=>(hw k (Nat.lt_of_lt_of_le hk H.size) (fun h=>by rcases (hφ k h).1 with h | h;exact hL h;omega)).trans (H.old k hk hL)
 out:=fun k lo hi h=>by
  obtain ⟨c,c0,e,fz,h1,h2,h3,h4⟩:=H.out k lo hi h
  exact ⟨c,c0,e,fz,h1,by rw [hw k (Array.getElem?_eq_some_iff.1 h2).1 (fun hk=>(hφ k hk).2 lo hi h)];exact h2,h3,h4⟩

theorem jis {args:Array Operand} {ts:Array TypeId} {s:Nat} (H:Inv C R G st a w) (ho:o.op=.call { callee:=.builtin .append,args:=args,argTypes:=ts }) (h:heavy C st s o.op=some (true,v,st1)):jfd C R G st a w o v st1:=by
 rw [ho] at h
 simp only [heavy] at h
 split at h
 ·rename_i t t' x y hts hevs
  have hargs:∃p q,args=#[p,q]∧ev C st [] p=x∧ev C st [] q=y:=by
   have hl:=jcj (C:=C) (st:=st) (p:=[]) args.toList
   rw [hevs] at hl
   match hargs:args.toList,hl with
   | [p,q],_ =>
    rw [hargs] at hevs
    simp only [evs,List.cons.injEq,and_true] at hevs
    exact ⟨p,q,by rw [←Array.toList_inj,hargs],hevs.1,hevs.2⟩
  obtain ⟨p,q,rfl,hp,hq⟩:=hargs
  have hts':ts=#[t,t']:=by rw [←Array.toList_inj,hts]
  subst hts'
  split at h
  ·rename_i el el' ht ht'
   split at h
   ·rename_i hsm
    split at h
    ·rename_i zs hz
     split at h
     ·rename_i ok ys st2 hsrc
      obtain ⟨hz1,hpos,hE⟩:=jxn hz
      obtain ⟨i,z,h1,h2,h3,h4,h5,h6⟩:=jzb hz1
      obtain ⟨_,_,hu,_⟩:=jed ht
      obtain ⟨_,_,hu',_⟩:=jed ht'
      obtain ⟨i',h1',hb⟩:=jos hsm
      rw [h1] at h1';cases h1'
      -- the run, once the row is known
      have go:∀{xs:List (List D)} {φ:Nat→Prop} {G1:Gh} {θ:Nat→Prop} {news:List Value},SrcOk C R G st a w zs.length (a.eval q) ys st2 G1 θ news→RowR w el zs.length φ xs (a.eval p)→xs.length+ys.length≤lim→(∀k,φ k→k < w.heap.size∧(R.L k∨R.w0.heap.size≤k)∧∀lo hi,¬ R.LB k lo hi)→(∀k,φ k→θ k→False) →
        ∃v' w',(execOp a.eval o).run C.P w=.ok (.value v') w'∧RowR w' el zs.length (fun k=>φ k∨θ k∨(k=w.heap.size∧k < w'.heap.size)) (xs++ys) v'∧WInv R w'∧w.heap.size≤w'.heap.size∧(∀k,k < w.heap.size→¬ φ k→w'.heap[k]? = w.heap[k]?) ∧
         (∀k,(φ k∨θ k∨(k=w.heap.size∧k < w'.heap.size))→k < w'.heap.size∧(R.L k∨R.w0.heap.size≤k)∧∀lo hi,¬ R.LB k lo hi)∧w'.os=w.os∧w'.tape=w.tape∧w'.output=w.output:=by
       intro xs φ G1 θ news hS hrow hlim hφ hd
       obtain ⟨A,c,hv,hA,hnews⟩:=hS.val
       obtain ⟨v',w',r1,r2,r3,r4,r5,r6,r7⟩:=jtv (P:=C.P) (w:=w) (ty:=o.type) (c:=c) hu hu' h1 h2 h3 h4 hpos hb hlim hrow hA hnews hS.els hS.len (fun k hk=>(hφ k hk).1) (fun k hk=>(hS.mine k hk).1) hd
       refine ⟨v',w',?_,r2,jaq H.W r3 r4 r5 r6 (fun k hk=>(hφ k hk).2) r7,r6,r7,fun k hk=>?_,r3,r4,r5⟩
       ·simp [execOp,ho,resolve,invoke,builtin,hv,r1]
       ·rcases hk with hk | hk | ⟨rfl,hk⟩
        ·exact ⟨Nat.lt_of_lt_of_le (hφ k hk).1 r6,(hφ k hk).2⟩
        ·exact ⟨Nat.lt_of_lt_of_le (hS.mine k hk).1 r6,(hS.mine k hk).2⟩
        ·exact ⟨hk,(jnd H).1,(jnd H).2.1⟩
      split at h
      ·-- to an own row
       rename_i n
       split at h
       ·rename_i e sz xs hrow
        split at h
        ·rename_i hes
         obtain ⟨⟨rfl,rfl⟩,hwk⟩:=hes
         simp only [Option.some.injEq,Prod.mk.injEq,Bool.and_eq_true,decide_eq_true_eq] at h
         obtain ⟨⟨rfl,hlim⟩,rfl,rfl⟩:=h
         obtain ⟨G1,θ,news,hS⟩:=jlk H (H.evE hq) hpos hsrc
         obtain ⟨hlive,hpv,_⟩:=H.evE hp
         have hl1:=hS.has.live hlive hrow
         obtain ⟨b,hb',hbr⟩:=hS.inv.B.rel n hl1 id
         rw [hrow] at hb';cases hb'
         obtain ⟨r1,r2,r3,r4⟩:=hbr
         have hmn:=hS.inv.B.mine n hl1 id
         rw [←hS.gle.2.2.1] at hpv
         obtain ⟨v',w',k1,k2,k3,k4,k5,k6,_⟩:=go hS (by rw [hpv];exact r1.row hwk) hlim (fun k hk=>⟨(hmn k hk).1,(hmn k hk).2,fun lo hi=>r4 k lo hi hk⟩) (fun k hk hk'=>hS.apart k n hk' hl1 hk)
         intro K Q hK
         unfold Oper.wp
         rw [k1]
         obtain ⟨j1,j2,j3⟩:=jzr (xs':=xs++ys) (v:=v') (ψ:=fun k=>G1.φ n k∨θ k∨(k=w.heap.size∧k < w'.heap.size)) hS.inv hl1 hrow k3 k4 (fun m hm hmn' k hk=>k5 k (hS.inv.B.mine m hm id k hk).1 (fun hk'=>hS.inv.B.disj m n hm id hl1 id hmn' k hk hk')) k2 k6 (fun k m hk hm hmn' hφ=>by
          rcases hk with hk | hk | ⟨rfl,_⟩
          ·exact hS.inv.B.disj n m hl1 id hm id (Ne.symm hmn') k hk hφ
          ·exact hS.apart k m hk hm hφ
          ·exact (jnd hS.inv).2.2 m hm hφ)
         exact hK _ _ _ j1 j2 (hS.fr.trans j3)
        ·cases h
       ·cases h
      ·-- to nil
       rw [Option.map_eq_some_iff] at h
       obtain ⟨st3,ha,h⟩:=h
       simp only [Prod.mk.injEq,Bool.and_eq_true,decide_eq_true_eq] at h
       obtain ⟨⟨rfl,hlim⟩,rfl,rfl⟩:=h
       obtain ⟨G1,θ,news,hS⟩:=jlk H (H.evE hq) hpos hsrc
       have hpv:a.eval p=.slice none 0 0:=H.evE hp
       obtain ⟨hnone,rfl⟩:=jid ha
       obtain ⟨v',w',k1,k2,k3,k4,k5,k6,k7,k8,k9⟩:=go (xs:=[]) (φ:=fun _=>False) hS (by rw [hpv];exact .inl ⟨rfl,rfl⟩) (by simpa using hlim) (fun k hk=>hk.elim) (fun k hk=>hk.elim)
       intro K Q hK
       unfold Oper.wp
       rw [k1]
       obtain ⟨j1,j2,j3⟩:=jlp (xs:=ys) (v:=v') (ψ:=fun k=>False∨θ k∨(k=w.heap.size∧k < w'.heap.size)) hS.inv ⟨k7,k8,k9,k4,fun k hk=>k5 k hk id⟩ hnone k2 hE k6 (fun k m hk hm hφ=>by
        rcases hk with hk | hk | ⟨rfl,_⟩
        ·exact hk
        ·exact hS.apart k m hk hm hφ
        ·exact (jnd hS.inv).2.2 m hm hφ)
       exact hK _ _ _ j1 j2 (hS.fr.trans j3)
      ·cases h
     ·cases h
    ·cases h
   ·cases h
  ·cases h
 ·cases h
end Go.Den

/- What a call hands over. -/
namespace Go.Den
open Go
variable {C:Ctx} {R:Rt} {G G0:Gh} {st st1:St} {a:Act} {w w':World} {o:Oper} {v:SV}

theorem jxt {S:Nat→Prop} {n:Nat} {cs:List SV} (H:InvS S C R G st a w) (hb:hlk st.h n=some (.box cs)) :
  InvS (fun k=>S k∨k=n) C R G { st with h:=hdel st.h n } a w∧Has G st.h G (hdel st.h n)∧(G.live n→Fr G st.h G (hdel st.h n)):=by
 have hs:∀k,Same G st.h G (hdel st.h n) k:=fun k hk=>⟨hk,rfl,rfl,fun e sz xs hx=>⟨xs,by rw [jwa,if_neg (fun e=>by subst e;rw [hb] at hx;cases hx)];exact hx⟩⟩
 refine ⟨⟨H.W,⟨fun k hk hS=>?_,fun k m hk hkS hm hmS=>H.B.disj k m hk (fun h=>hkS (.inl h)) hm (fun h=>hmS (.inl h)),fun k hk hS=>H.B.mine k hk (fun h=>hS (.inl h)),fun k b' hf=>?_⟩,fun k b hk=>?_,fun t=>jib hs (H.slots t),H.l,H.m⟩,fun k b hk=>?_,fun hl m xs ⟨h1,h2,h3⟩=>?_⟩
 ·obtain ⟨b,h1,h2⟩:=H.B.rel k hk (fun h=>hS (.inl h))
  exact ⟨b,by show hlk (hdel st.h n) k=_;rw [jwa,if_neg (fun e=>hS (.inr e))];exact h1,jhb hs rfl rfl rfl h2⟩
 ·obtain ⟨h1,h2,h3⟩:=H.B.fix k b' hf
  refine ⟨h1,h2,fun hS=>?_⟩
  obtain ⟨ds,hc⟩:=h3 (fun h=>hS (.inl h))
  exact ⟨ds,by show hlk (hdel st.h n) k=_;rw [jwa,if_neg (fun e=>hS (.inr e))];exact hc⟩
 ·have hk':hlk (hdel st.h n) k=some b:=hk
  rw [jwa] at hk'
  split at hk'
  ·cases hk'
  ·rename_i hkn
   rintro (h | h)
   ·exact H.all k b hk' h
   ·exact hkn h
 ·rw [jwa] at hk
  split at hk
  ·cases hk
  ·exact ⟨⟨b,hk⟩,hs k⟩
 ·exact ⟨h1,by rw [jwa,if_neg (show ¬ m=n from fun e=>h1 (by rw [e];exact hl))];exact h2,h3⟩

def GivK (P:Program) (R:Rt) (w:World) (G0:Gh):Mode→SV→Value→Option DV→(Nat→Nat→Prop)→(Nat→Nat→Nat→Prop)→Prop
 | .ptr ks,.ptr n off,v,some (.ptr ds),θ,β=>∃cur e us,v=.pointer (some ⟨(G0.base n).1,(G0.base n).2+off,none⟩)∧w.heap[(G0.base n).1]? = some (.cells cur e (0,0))∧(∀k,θ 0 k↔k=(G0.base n).1)∧(∀k lo hi,β k lo hi↔k=(G0.base n).1∧lo=(G0.base n).2+off∧hi=(G0.base n).2+off+ks.length) ∧
   (G0.base n).2+off+ds.length≤cur.size∧(∀(j:Nat) u,us[j]? = some u→cur[(G0.base n).2+off+j]? = some u)∧KC P R w ks ds us (fun j=>θ (j+1))∧(∀lo hi,R.LB (G0.base n).1 lo hi→lo≤(G0.base n).2+off∧(G0.base n).2+off+ks.length≤hi)
 | .own ks,.agg _,v,some (.agg ds),θ,β=>(∃us:List Value,v=.agg us.toArray∧KC P R w ks ds us (fun j=>θ (j+1)))∧(∀k,¬ θ 0 k)∧∀k lo hi,¬ β k lo hi
 | .own ks,_,v,some (.one d),θ,β=>KC P R w ks [d] [v] (fun j=>θ (j+1))∧(∀k,¬ θ 0 k)∧∀k lo hi,¬ β k lo hi
 | .ptr _,.ptr _ _,_,none,_,_=>False
 | _,_,_,none,θ,β=>(∀j k,¬ θ j k)∧∀k lo hi,¬ β k lo hi
 | _,_,_,_,_,_=>False
def jpr (P:Program) (R:Rt) (w:World) (G0:Gh):List Mode→List SV→List Value→List (Option DV)→(Nat→Nat→Nat→Prop)→(Nat→Nat→Nat→Nat→Prop)→Prop
 | [],[],[],[],Θ,B=>(∀i j k,¬ Θ i j k)∧∀i k lo hi,¬ B i k lo hi
 | m :: ms,x :: xs,v :: vs,r :: rs,Θ,B=>GivK P R w G0 m x v r (Θ 0) (B 0)∧jpr P R w G0 ms xs vs rs (fun i=>Θ (i+1)) (fun i=>B (i+1))
 | _,_,_,_,_,_=>False

structure Given (C:Ctx) (R:Rt) (G0:Gh) (h0:List (Nat × Blk)) (S:Nat→Prop) (G:Gh) (st:St) (a:Act) (w:World) (ms:List Mode) (xs:List SV) (vs:List Value) (r:List (Option DV)) (st':St) (G':Gh) (Θ:Nat→Nat→Nat→Prop) (B:Nat→Nat→Nat→Nat→Prop):Prop where
 inv:InvS (fun n=>S n∨n∈lentN ms xs) C R G' st' a w
 gle:Gle G' G
 has:Has G0 h0 G' st'.h
 givs:jpr C.P R w G0 ms xs vs r Θ B
 mine:∀i j k,Θ i j k→k < w.heap.size∧(R.L k∨R.w0.heap.size≤k)
 lb:∀i j k,Θ i (j+1) k→∀lo hi,¬ R.LB k lo hi
 apart:jic Θ
 src:∀i j k,Θ i j k→∃n,(G.live n∧¬ S n)∧G.φ n k
 sep:∀i j k n,Θ i j k→G'.live n→¬ (S n∨n∈lentN ms xs)→G'.φ n k→False
 blk:∀i k lo hi,B i k lo hi→Θ i 0 k∧∃cur e,w.heap[k]? = some (.cells cur e (0,0))
 box:∀i k,Θ i 0 k→∃lo hi,B i k lo hi∧∀lo' hi',R.LB k lo' hi'→lo'≤lo∧hi≤hi'
 fr:Fr G st.h G' st'.h
 live:∀n,G.live n→(S n∨n∈lentN ms xs)→G'.live n
 lent:∀n∈lentN ms xs,G.live n∧∃cs,hlk st.h n=some (.box cs)
 nodup:(lentN ms xs).Nodup

def jij (θ:Nat→Nat→Prop) (Θ:Nat→Nat→Nat→Prop):Nat→Nat→Nat→Prop:=fun i=>match i with | 0=>θ | i+1=>Θ i
def juv (β:Nat→Nat→Nat→Prop) (B:Nat→Nat→Nat→Nat→Prop):Nat→Nat→Nat→Nat→Prop:=fun i=>match i with | 0=>β | i+1=>B i
theorem Given.cons {S S1:Nat→Prop} {h0:List (Nat × Blk)} {G1 G':Gh} {st2 st':St} {m:Mode} {x:SV} {u:Value} {d:Option DV} {ms:List Mode} {xs:List SV} {vs:List Value} {r:List (Option DV)} {θ:Nat→Nat→Prop} {β:Nat→Nat→Nat→Prop} {Θ:Nat→Nat→Nat→Prop} {B:Nat→Nat→Nat→Nat→Prop}
  (K:Given C R G0 h0 S1 G1 st2 a w ms xs vs r st' G' Θ B) (hS:∀n,(S1 n∨n∈lentN ms xs)↔(S n∨n∈lentN (m :: ms) (x :: xs))) (hS1:∀n,S n→S1 n) (hgle:Gle G1 G) (hg:GivK C.P R w G0 m x u d θ β)
  (hm:∀j k,θ j k→k < w.heap.size∧(R.L k∨R.w0.heap.size≤k)) (hlb:∀j k,θ (j+1) k→∀lo hi,¬ R.LB k lo hi) (hap:∀j j' k,θ j k→θ j' k→j=j') (hsrc:∀j k,θ j k→∃n,(G.live n∧¬ S n)∧G.φ n k)
  (hsep:∀j k n,θ j k→G1.live n→¬ S1 n→G1.φ n k→False) (hblk:∀k lo hi,β k lo hi→θ 0 k∧∃cur e,w.heap[k]? = some (.cells cur e (0,0))) (hbox:∀k,θ 0 k→∃lo hi,β k lo hi∧∀lo' hi',R.LB k lo' hi'→lo'≤lo∧hi≤hi')
  (hfr:Fr G st.h G1 st2.h) (hlive:∀n,G.live n→S1 n→G1.live n) (hlent:∀n∈lentN (m :: ms) (x :: xs),n∈lentN ms xs∨(S1 n∧G.live n∧∃cs,hlk st.h n=some (.box cs))) (hback:∀n∈lentN ms xs,G1.live n→∀cs,hlk st2.h n=some (.box cs)→∃cs',hlk st.h n=some (.box cs')) (hnd:(lentN (m :: ms) (x :: xs)).Nodup) (hlv:∀n,n∈lentN ms xs→G.live n→G1.live n) :
  Given C R G0 h0 S G st a w (m :: ms) (x :: xs) (u :: vs) (d :: r) st' G' (jij θ Θ) (juv β B) where
 inv:=by
  have:=K.inv
  have e:(fun n=>S1 n∨n∈lentN ms xs)=fun n=>S n∨n∈lentN (m :: ms) (x :: xs):=funext fun n=>propext (hS n)
  rw [e] at this
  exact this
 gle:=K.gle.trans hgle
 has:=K.has
 givs:=⟨hg,K.givs⟩
 mine:=fun i j k h=>by cases i with | zero=>exact hm j k h | succ i=>exact K.mine i j k h
 lb:=fun i j k h=>by cases i with | zero=>exact hlb j k h | succ i=>exact K.lb i j k h
 apart:=fun i j i' j' k h h'=>by
  have cross:∀{i j j':Nat},θ j k→Θ i j' k→False:=fun h1 h2=>by
   obtain ⟨n,h3,h4⟩:=K.src _ _ _ h2
   exact hsep _ k n h1 h3.1 h3.2 h4
  cases i with
  | zero =>
   cases i' with
   | zero=>exact ⟨rfl,hap j j' k h h'⟩
   | succ i'=>exact (cross h h').elim
  | succ i =>
   cases i' with
   | zero=>exact (cross h' h).elim
   | succ i'=>obtain ⟨h1,h2⟩:=K.apart i j i' j' k h h';exact ⟨by omega,h2⟩
 src:=fun i j k h=>by
  cases i with
  | zero=>exact hsrc j k h
  | succ i=>obtain ⟨n,h1,h2⟩:=K.src i j k h;exact ⟨n,⟨hgle.1 n h1.1,fun e=>h1.2 (hS1 n e)⟩,by rw [←hgle.2.2.2];exact h2⟩
 sep:=fun i j k n h hn hSn hφ=>by
  have hSn':=fun e=>hSn ((hS n).1 e)
  cases i with
  | zero=>exact hsep j k n h (K.gle.1 n hn) (fun e=>hSn' (.inl e)) (by rw [←K.gle.2.2.2];exact hφ)
  | succ i=>exact K.sep i j k n h hn hSn' hφ
 blk:=fun i k lo hi h=>by cases i with | zero=>exact hblk k lo hi h | succ i=>exact K.blk i k lo hi h
 box:=fun i k h=>by cases i with | zero=>exact hbox k h | succ i=>exact K.box i k h
 fr:=hfr.trans K.fr
 live:=fun n hn hSn=>by
  have h1:=(hS n).2 hSn
  rcases h1 with h1 | h1
  ·exact K.live n (hlive n hn h1) (.inl h1)
  ·exact K.live n (hlv n h1 hn) (.inr h1)
 lent:=fun n hn=>by
  rcases hlent n hn with h | ⟨_,h⟩
  ·obtain ⟨h1,cs,h2⟩:=K.lent n h
   exact ⟨hgle.1 n h1,hback n h h1 cs h2⟩
  ·exact h
 nodup:=hnd

theorem jih {u:Value} (h:u.oneCell'=true):u.cells=#[u]:=by cases u<;>first | rfl | cases h
theorem jzm {h:List (Nat × Blk)} {x:SV} {u:Value} (hx:VRel R G h x u) (hok:okSV x=true) (hna:∀cs,x≠.agg cs):u.oneCell'=true∧cellsOf x=[x]:=by
 cases x with
 | d x=>exact ⟨hx.one,rfl⟩
 | nils=>exact ⟨by rw [show u=.slice none 0 0 from hx];rfl,rfl⟩
 | own n=>exact ⟨hx.2.2,rfl⟩
 | ptr n q=>exact ⟨by rw [hx.2];rfl,rfl⟩
 | nilp=>exact ⟨by rw [show u=.pointer none from hx];rfl,rfl⟩
 | pv c q=>obtain ⟨g,o,h1,_⟩:=hx;exact ⟨by rw [h1];rfl,rfl⟩
 | rp n i q=>obtain ⟨_,e,sz,xs,_,g,o,len,cap,_,h1⟩:=hx;exact ⟨by rw [h1];rfl,rfl⟩
 | ov n k=>obtain ⟨_,A,len,cap,_,_,h1⟩:=hx;exact ⟨by rw [h1];rfl,rfl⟩
 | agg cs=>exact absurd rfl (hna cs)
 | tup vs=>cases hok
 | fn f=>exact ⟨by rw [show u=.func (.func f) #[] #[] from hx];rfl,rfl⟩
 | op b cs =>
  cases b with
  | true=>exact ⟨(hx.1 rfl).one,rfl⟩
  | false=>exact ⟨by rw [hx.2 rfl];rfl,rfl⟩
 | fp f n q=>exact ⟨by rw [hx.2];rfl,rfl⟩
 | fb f cs=>obtain ⟨p,h1,_⟩:=hx;exact ⟨by rw [h1];rfl,rfl⟩
 | bx n j x=>exact ⟨hx.2.one,rfl⟩
 | undef=>cases hok
theorem jks {ks:List (Option (Nat × Nat))} {x:SV} {r:List D × St} (h:takeK st ks (cellsOf x)=some r):okSV x=true:=by
 cases x<;>first | rfl | skip
 all_goals
  cases ks with
  | nil=>simp [cellsOf,takeK] at h
  | cons k ks=>cases k<;>simp [cellsOf,takeK] at h
def behind (θ:Nat→Nat→Prop) (b:Nat→Prop):Nat→Nat→Prop:=fun j=>match j with | 0=>b | j+1=>θ j

theorem jtq {S:Nat→Prop} {h0:List (Nat × Blk)} {ks:List (Option (Nat × Nat))} {x:SV} {u:Value} {d:DV} {ms:List Mode} {xs:List SV} {vs:List Value} {r:List (Option DV)} {st':St} {G':Gh} {G1:Gh} {θ:Nat→Nat→Prop} {Θ:Nat→Nat→Nat→Prop} {B:Nat→Nat→Nat→Nat→Prop}
  (i1:InvS S C R G1 st1 a w) (i2:Gle G1 G) (i8:Has G st.h G1 st1.h) (i4:Mine R w θ) (i5:jow θ) (i6:∀j k,θ j k→∃n,(G.live n∧¬ S n)∧G.φ n k) (i7:∀j k n,θ j k→G1.live n→¬ S n→G1.φ n k→False) (i9:Fr G st.h G1 st1.h) (i10:∀m,G.live m→S m→G1.live m)
  (hg:GivK C.P R w G0 (.own ks) x u (some d) (behind θ fun _=>False) (fun _ _ _=>False))
  (K:Given C R G0 h0 S G1 st1 a w ms xs vs r st' G' Θ B):Given C R G0 h0 S G st a w (.own ks :: ms) (x :: xs) (u :: vs) (some d :: r) st' G' (jij (behind θ fun _=>False) Θ) (juv (fun _ _ _=>False) B):=by
 have hl:lentN (.own ks :: ms) (x :: xs)=lentN ms xs:=by cases x<;>rfl
 refine K.cons (fun n=>by rw [hl]) (fun _ h=>h) i2 hg (fun j k h=>?_) (fun j k h=>?_) (fun j j' k h h'=>?_) (fun j k h=>?_) (fun j k n h=>?_) (fun _ _ _ h=>h.elim) (fun _ h=>h.elim) i9 i10 (fun n hn=>.inl (by rw [hl] at hn;exact hn)) (fun n hn hl1 cs hb=>?_) (by rw [hl];exact K.nodup) (fun n hn _=>(K.lent n hn).1)
 ·cases j with | zero=>exact h.elim | succ j=>exact ⟨(i4 j k h).1,(i4 j k h).2.1⟩
 ·exact (i4 j k h).2.2
 ·cases j with
  | zero=>exact h.elim
  | succ j=>cases j' with | zero=>exact h'.elim | succ j'=>rw [i5 j j' k h h']
 ·cases j with | zero=>exact h.elim | succ j=>exact i6 j k h
 ·cases j with | zero=>exact h.elim | succ j=>exact i7 j k n h
 ·obtain ⟨⟨b,hb0⟩,hs⟩:=i8 n _ hb
  cases b with
  | box cs'=>exact ⟨cs',hb0⟩
  | row e sz ys =>
   obtain ⟨_,_,_,h4⟩:=hs (i2.1 n hl1)
   obtain ⟨zs,hz⟩:=h4 e sz ys hb0
   rw [hb] at hz;cases hz

theorem jfa {S:Nat→Prop} {h0:List (Nat × Blk)} {m:Mode} {x:SV} {u:Value} {ms:List Mode} {xs:List SV} {vs:List Value} {r:List (Option DV)} {st':St} {G':Gh} {Θ:Nat→Nat→Nat→Prop} {B:Nat→Nat→Nat→Nat→Prop} (H:InvS S C R G st a w) (hl:lentN (m :: ms) (x :: xs)=lentN ms xs)
  (hg:GivK C.P R w G0 m x u none (fun _ _=>False) (fun _ _ _=>False)) (K:Given C R G0 h0 S G st a w ms xs vs r st' G' Θ B):Given C R G0 h0 S G st a w (m :: ms) (x :: xs) (u :: vs) (none :: r) st' G' (jij (fun _ _=>False) Θ) (juv (fun _ _ _=>False) B) :=
 K.cons (fun n=>by rw [hl]) (fun _ h=>h) (Gle.refl G) hg (fun _ _ h=>h.elim) (fun _ _ h=>h.elim) (fun _ _ _ h=>h.elim) (fun _ _ h=>h.elim) (fun _ _ _ h=>h.elim) (fun _ _ _ h=>h.elim) (fun _ h=>h.elim) (Fr.refl _ _) (fun _ h _=>h) (fun n hn=>.inl (by rw [hl] at hn;exact hn)) (fun n _ _ cs h=>⟨cs,h⟩) (by rw [hl];exact K.nodup) (fun _ _ h=>h)
theorem jba {h0:List (Nat × Blk)}:∀(ms:List Mode) (xs:List SV) (vs:List Value) (S:Nat→Prop) (st:St) (G:Gh) (r:List (Option DV)) (st':St),InvS S C R G st a w→Gle G G0→Has G0 h0 G st.h→(∀ks,Mode.ptr ks∈ms∨Mode.own ks∈ms→KOk C.P ks)→jca R G0 h0 xs vs→given st ms xs=some (r,st') →
  ∃G' Θ B,Given C R G0 h0 S G st a w ms xs vs r st' G' Θ B
 | [],[],vs,S,st,G,r,st',H,hG,hH,hk,hv,h=>by
  simp only [given,Option.some.injEq,Prod.mk.injEq] at h
  obtain ⟨rfl,rfl⟩:=h
  have:vs=[]:=List.eq_nil_of_length_eq_zero (by simpa using hv.1)
  subst this
  refine ⟨G,fun _ _ _=>False,fun _ _ _ _=>False,⟨?_,Gle.refl G,hH,⟨fun _ _ _ h=>h,fun _ _ _ _ h=>h⟩,fun _ _ _ h=>h.elim,fun _ _ _ h=>h.elim,fun _ _ _ _ _ h=>h.elim,fun _ _ _ h=>h.elim,fun _ _ _ _ h=>h.elim,fun _ _ _ _ h=>h.elim,fun _ _ h=>h.elim,Fr.refl _ _,fun n hn _=>hn,fun n hn=>by simp [lentN] at hn,by simp [lentN]⟩⟩
  have e:(fun n=>S n∨n∈lentN [] [])=S:=funext fun n=>propext ⟨fun h=>h.elim id (fun h=>by simp [lentN] at h),.inl⟩
  rw [e];exact H
 | .own ks :: ms,x :: xs,vs,S,st,G,r,st',H,hG,hH,hk,hv,h=>by
  obtain ⟨u,vs',rfl,h1,hv'⟩:=hv.tail
  simp only [given] at h
  split at h
  ·rename_i ds st1 htk
   split at h
   ·rename_i r1 st2 hrec
    have hok:=jks htk
    obtain ⟨c1,c2⟩:=jsb h1 hok
    obtain ⟨G1,θ,i1,i2,i8,i3,i4,i5,i6,i7,i9,i10,i11⟩:=jrb ks (cellsOf x) u.cells.toList st G ds st1 H hG hH (fun e sz hm=>hk ks (.inr (by simp)) e sz hm) ⟨by simpa using c1,fun j y hj=>by obtain ⟨q,k1,k2,k3⟩:=c2 j y hj;exact ⟨q,by simpa using k1,k2,k3⟩⟩ htk
    obtain ⟨G',Θ,B,K⟩:=jba ms xs vs' S st1 G1 r1 st2 i1 (i2.trans hG) i8 (fun ks' hm=>hk ks' (by rcases hm with hm | hm;exact .inl (by simp [hm]);exact .inr (by simp [hm]))) hv' hrec
    split at h
    ·rename_i cs
     cases h
     obtain ⟨us,hus,_⟩:=jvd h1
     subst hus
     have i3':KC C.P R w ks ds us θ:=by simpa [Value.cells] using i3
     exact ⟨G',_,_,jtq i1 i2 i11 i4 i5 i6 i7 i9 i10 ⟨⟨us,rfl,i3'⟩,fun k h=>h,fun k lo hi h=>h⟩ K⟩
    ·rename_i d hna
     cases h
     obtain ⟨o1,o2⟩:=jzm h1 hok hna
     rw [jih o1] at i3
     refine ⟨G',_,_,jtq (d:=.one d) i1 i2 i11 i4 i5 i6 i7 i9 i10 ?_ K⟩
     cases x<;>first | exact absurd rfl (hna _) | exact ⟨i3,fun k h=>h,fun k lo hi h=>h⟩
    ·cases h
   ·cases h
  ·cases h
 | .ptr ks :: ms,.ptr n off :: xs,vs,S,st,G,r,st',H,hG,hH,hk,hv,h=>by
  obtain ⟨u,vs',rfl,h1,hv'⟩:=hv.tail
  simp only [given] at h
  split at h
  ·rename_i cs hbox
   split at h
   ·rename_i hlen
    split at h
    ·rename_i ds st1 htk
     split at h
     ·rename_i r1 st2 hrec
      cases h
      obtain ⟨hl0,hu⟩:=h1
      have hlive:=hH.live hl0 hbox
      have hnS:=H.all n _ hbox
      obtain ⟨b,hb',hbr⟩:=H.B.rel n hlive hnS
      rw [hbox] at hb';cases hb'
      obtain ⟨cur,e,r1',r2,r3,r4,r5⟩:=hbr
      have hbase:G0.base=G.base:=hG.2.1.symm
      obtain ⟨H1,hHas1,hfr1⟩:=jxt H hbox
      have hus:jla R G st.h ((cs.drop off).take ks.length) ((cur.toList.drop ((G.base n).2+off)).take ks.length)∧∀(j:Nat) u,((cur.toList.drop ((G.base n).2+off)).take ks.length)[j]? = some u→cur[(G.base n).2+off+j]? = some u:=by
       refine ⟨⟨by simp;omega,fun j y hj=>?_⟩,fun j u hj=>?_⟩
       ·rw [List.getElem?_take] at hj
        split at hj
        ·rename_i hjs
         rw [List.getElem?_drop] at hj
         obtain ⟨q,k2,k3,k4⟩:=r5 (off+j) y hj
         refine ⟨q,?_,k3,k4⟩
         rw [List.getElem?_take,if_pos hjs,List.getElem?_drop,Nat.add_assoc]
         simpa using k2
        ·cases hj
       ·rw [List.getElem?_take] at hj
        split at hj
        ·rw [List.getElem?_drop] at hj;simpa using hj
        ·cases hj
      obtain ⟨G1,θ,i1,i2,i8,i3,i4,i5,i6,i7,i9,i10,i11⟩:=jrb (G0:=G) (h0:=st.h) ks _ _ _ G ds st1 H1 (Gle.refl G) hHas1 (fun e sz hm=>hk ks (.inl (by simp)) e sz hm) hus.1 htk
      obtain ⟨G',Θ,B,K⟩:=jba ms xs vs' (fun k=>S k∨k=n) st1 G1 r1 st' i1 (i2.trans hG) (hH.trans i8) (fun ks' hm=>hk ks' (by rcases hm with hm | hm;exact .inl (by simp [hm]);exact .inr (by simp [hm]))) hv' hrec
      have hkl:ks.length=ds.length:=i3.1
      have hnn:n ∉ lentN ms xs:=fun hn=>by
       obtain ⟨_,cs',hc⟩:=K.lent n hn
       exact i1.all n _ hc (.inr rfl)
      refine ⟨G',_,_,K.cons (θ:=behind θ (·=(G.base n).1)) (β:=fun k lo hi=>k=(G.base n).1∧lo=(G.base n).2+off∧hi=(G.base n).2+off+ks.length) (fun m=>?_) (fun _ h=>.inl h) i2 ?_ (fun j k h=>?_) (fun j k h=>?_) (fun j j' k h h'=>?_) (fun j k h=>?_) (fun j k m h hm hS hφ=>?_) (fun k lo hi h=>⟨h.1,cur,e,by rw [h.1];exact r1'⟩) (fun k h=>⟨_,_,⟨h,rfl,rfl⟩,fun lo' hi' hlb=>?_⟩) ((hfr1 hlive).trans i9) i10 (fun m hm=>?_) (fun m hm hl1 cs' hb=>?_) ?_ (fun m hm _=>(K.lent m hm).1)⟩
      ·simp only [lentN,List.mem_cons]
       constructor
       ·rintro ((h | h) | h);exact .inl h;exact .inr (.inl h);exact .inr (.inr h)
       ·rintro (h | h | h);exact .inl (.inl h);exact .inl (.inr h);exact .inr h
      ·refine ⟨cur,e,_,by rw [hbase];rw [hbase] at hu;exact hu,by rw [hbase];exact r1',fun k=>by rw [hbase];rfl,fun k lo hi=>by rw [hbase],by rw [hbase];omega,by rw [hbase];exact hus.2,i3,fun lo hi hlb=>?_⟩
       rw [hbase] at hlb ⊢
       obtain ⟨q1,q2⟩:=r3 lo hi hlb
       omega
      ·cases j with
       | zero=>rw [show k=(G.base n).1 from h];exact H.B.mine n hlive hnS _ r2
       | succ j=>exact ⟨(i4 j k h).1,(i4 j k h).2.1⟩
      ·exact (i4 j k h).2.2
      ·have cross:∀{j:Nat},k=(G.base n).1→θ j k→False:=fun e1 e2=>by
        obtain ⟨m,m1,m2⟩:=i6 _ _ e2
        subst e1
        exact H.B.disj n m hlive hnS m1.1 (fun h=>m1.2 (.inl h)) (fun e=>m1.2 (.inr e.symm)) _ r2 m2
       cases j with
       | zero =>
        cases j' with
        | zero=>rfl
        | succ j'=>exact (cross h h').elim
       | succ j =>
        cases j' with
        | zero=>exact (cross h' h).elim
        | succ j'=>rw [i5 j j' k h h']
      ·cases j with
       | zero=>exact ⟨n,⟨hlive,hnS⟩,by rw [show k=(G.base n).1 from h];exact r2⟩
       | succ j=>obtain ⟨m,m1,m2⟩:=i6 j k h;exact ⟨m,⟨m1.1,fun e=>m1.2 (.inl e)⟩,m2⟩
      ·cases j with
       | zero =>
        have hk':k=(G.base n).1:=h
        subst hk'
        rw [i2.2.2.2] at hφ
        exact H.B.disj n m hlive hnS (i2.1 m hm) (fun h=>hS (.inl h)) (fun e=>hS (.inr e.symm)) _ r2 hφ
       | succ j=>exact i7 j k m h hm hS hφ
      ·rw [show k=(G.base n).1 from h] at hlb
       obtain ⟨q1,q2⟩:=r3 lo' hi' hlb
       omega
      ·simp only [lentN,List.mem_cons] at hm
       rcases hm with rfl | hm
       ·exact .inr ⟨.inr rfl,hlive,cs,hbox⟩
       ·exact .inl hm
      ·obtain ⟨⟨b,hb0⟩,hs⟩:=i8 m _ hb
       cases b with
       | box cs''=>exact ⟨cs'',hb0⟩
       | row e sz ys =>
        obtain ⟨_,_,_,h4⟩:=hs (i2.1 m hl1)
        obtain ⟨zs,hz⟩:=h4 e sz ys hb0
        rw [hb] at hz;cases hz
      ·simp only [lentN,List.nodup_cons]
       exact ⟨hnn,K.nodup⟩
     ·cases h
    ·cases h
   ·cases h
  ·cases h
 | .bor :: ms,x :: xs,vs,S,st,G,r,st',H,hG,hH,hk,hv,h=>by
  obtain ⟨u,vs',rfl,_,hv'⟩:=hv.tail
  simp only [given] at h
  split at h
  ·rename_i r1 st2 hrec
   cases h
   obtain ⟨G',Θ,B,K⟩:=jba ms xs vs' S st G r1 st' H hG hH (fun ks' hm=>hk ks' (by rcases hm with hm | hm;exact .inl (by simp [hm]);exact .inr (by simp [hm]))) hv' hrec
   exact ⟨G',_,_,jfa H (by rfl) ⟨fun _ _ h=>h,fun _ _ _ h=>h⟩ K⟩
  ·cases h
 | .rptr _ :: ms,x :: xs,vs,S,st,G,r,st',H,hG,hH,hk,hv,h=>by
  obtain ⟨u,vs',rfl,_,hv'⟩:=hv.tail
  simp only [given] at h
  split at h
  ·rename_i r1 st2 hrec
   cases h
   obtain ⟨G',Θ,B,K⟩:=jba ms xs vs' S st G r1 st' H hG hH (fun ks' hm=>hk ks' (by rcases hm with hm | hm;exact .inl (by simp [hm]);exact .inr (by simp [hm]))) hv' hrec
   exact ⟨G',_,_,jfa H (by rfl) ⟨fun _ _ h=>h,fun _ _ _ h=>h⟩ K⟩
  ·cases h
 | .fnp _ _ :: ms,x :: xs,vs,S,st,G,r,st',H,hG,hH,hk,hv,h=>by
  obtain ⟨u,vs',rfl,_,hv'⟩:=hv.tail
  simp only [given] at h
  split at h
  ·rename_i r1 st2 hrec
   cases h
   obtain ⟨G',Θ,B,K⟩:=jba ms xs vs' S st G r1 st' H hG hH (fun ks' hm=>hk ks' (by rcases hm with hm | hm;exact .inl (by simp [hm]);exact .inr (by simp [hm]))) hv' hrec
   exact ⟨G',_,_,jfa H (by rfl) ⟨fun _ _ h=>h,fun _ _ _ h=>h⟩ K⟩
  ·cases h
 | .io _ :: ms,x :: xs,vs,S,st,G,r,st',H,hG,hH,hk,hv,h=>by
  obtain ⟨u,vs',rfl,_,hv'⟩:=hv.tail
  simp only [given] at h
  split at h
  ·rename_i r1 st2 hrec
   cases h
   obtain ⟨G',Θ,B,K⟩:=jba ms xs vs' S st G r1 st' H hG hH (fun ks' hm=>hk ks' (by rcases hm with hm | hm;exact .inl (by simp [hm]);exact .inr (by simp [hm]))) hv' hrec
   exact ⟨G',_,_,jfa H (by rfl) ⟨fun _ _ h=>h,fun _ _ _ h=>h⟩ K⟩
  ·cases h
 | .ptr _ :: ms,.d _ :: xs,vs,S,st,G,r,st',H,hG,hH,hk,hv,h=>by
  obtain ⟨u,vs',rfl,_,hv'⟩:=hv.tail
  simp only [given] at h
  split at h
  ·rename_i r1 st2 hrec
   cases h
   obtain ⟨G',Θ,B,K⟩:=jba ms xs vs' S st G r1 st' H hG hH (fun ks' hm=>hk ks' (by rcases hm with hm | hm;exact .inl (by simp [hm]);exact .inr (by simp [hm]))) hv' hrec
   exact ⟨G',_,_,jfa H (by rfl) ⟨fun _ _ h=>h,fun _ _ _ h=>h⟩ K⟩
  ·cases h
 | .ptr _ :: ms,.nils :: xs,vs,S,st,G,r,st',H,hG,hH,hk,hv,h=>by
  obtain ⟨u,vs',rfl,_,hv'⟩:=hv.tail
  simp only [given] at h
  split at h
  ·rename_i r1 st2 hrec
   cases h
   obtain ⟨G',Θ,B,K⟩:=jba ms xs vs' S st G r1 st' H hG hH (fun ks' hm=>hk ks' (by rcases hm with hm | hm;exact .inl (by simp [hm]);exact .inr (by simp [hm]))) hv' hrec
   exact ⟨G',_,_,jfa H (by rfl) ⟨fun _ _ h=>h,fun _ _ _ h=>h⟩ K⟩
  ·cases h
 | .ptr _ :: ms,.op _ _ :: xs,vs,S,st,G,r,st',H,hG,hH,hk,hv,h=>by
  obtain ⟨u,vs',rfl,_,hv'⟩:=hv.tail
  simp only [given] at h
  split at h
  ·rename_i r1 st2 hrec
   cases h
   obtain ⟨G',Θ,B,K⟩:=jba ms xs vs' S st G r1 st' H hG hH (fun ks' hm=>hk ks' (by rcases hm with hm | hm;exact .inl (by simp [hm]);exact .inr (by simp [hm]))) hv' hrec
   exact ⟨G',_,_,jfa H (by rfl) ⟨fun _ _ h=>h,fun _ _ _ h=>h⟩ K⟩
  ·cases h
 | .ptr _ :: ms,.fp _ _ _ :: xs,vs,S,st,G,r,st',H,hG,hH,hk,hv,h=>by
  obtain ⟨u,vs',rfl,_,hv'⟩:=hv.tail
  simp only [given] at h
  split at h
  ·rename_i r1 st2 hrec
   cases h
   obtain ⟨G',Θ,B,K⟩:=jba ms xs vs' S st G r1 st' H hG hH (fun ks' hm=>hk ks' (by rcases hm with hm | hm;exact .inl (by simp [hm]);exact .inr (by simp [hm]))) hv' hrec
   exact ⟨G',_,_,jfa H (by rfl) ⟨fun _ _ h=>h,fun _ _ _ h=>h⟩ K⟩
  ·cases h
 | .ptr _ :: ms,.bx _ _ _ :: xs,vs,S,st,G,r,st',H,hG,hH,hk,hv,h=>by
  obtain ⟨u,vs',rfl,_,hv'⟩:=hv.tail
  simp only [given] at h
  split at h
  ·rename_i r1 st2 hrec
   cases h
   obtain ⟨G',Θ,B,K⟩:=jba ms xs vs' S st G r1 st' H hG hH (fun ks' hm=>hk ks' (by rcases hm with hm | hm;exact .inl (by simp [hm]);exact .inr (by simp [hm]))) hv' hrec
   exact ⟨G',_,_,jfa H (by rfl) ⟨fun _ _ h=>h,fun _ _ _ h=>h⟩ K⟩
  ·cases h
 | .ptr _ :: ms,.fb _ _ :: xs,vs,S,st,G,r,st',H,hG,hH,hk,hv,h=>by
  obtain ⟨u,vs',rfl,_,hv'⟩:=hv.tail
  simp only [given] at h
  split at h
  ·rename_i r1 st2 hrec
   cases h
   obtain ⟨G',Θ,B,K⟩:=jba ms xs vs' S st G r1 st' H hG hH (fun ks' hm=>hk ks' (by rcases hm with hm | hm;exact .inl (by simp [hm]);exact .inr (by simp [hm]))) hv' hrec
   exact ⟨G',_,_,jfa H (by rfl) ⟨fun _ _ h=>h,fun _ _ _ h=>h⟩ K⟩
  ·cases h
 | .ptr _ :: ms,.own _ :: xs,vs,S,st,G,r,st',H,hG,hH,hk,hv,h=>by
  obtain ⟨u,vs',rfl,_,hv'⟩:=hv.tail
  simp only [given] at h
  split at h
  ·rename_i r1 st2 hrec
   cases h
   obtain ⟨G',Θ,B,K⟩:=jba ms xs vs' S st G r1 st' H hG hH (fun ks' hm=>hk ks' (by rcases hm with hm | hm;exact .inl (by simp [hm]);exact .inr (by simp [hm]))) hv' hrec
   exact ⟨G',_,_,jfa H (by rfl) ⟨fun _ _ h=>h,fun _ _ _ h=>h⟩ K⟩
  ·cases h
 | .ptr _ :: ms,.nilp :: xs,vs,S,st,G,r,st',H,hG,hH,hk,hv,h=>by
  obtain ⟨u,vs',rfl,_,hv'⟩:=hv.tail
  simp only [given] at h
  split at h
  ·rename_i r1 st2 hrec
   cases h
   obtain ⟨G',Θ,B,K⟩:=jba ms xs vs' S st G r1 st' H hG hH (fun ks' hm=>hk ks' (by rcases hm with hm | hm;exact .inl (by simp [hm]);exact .inr (by simp [hm]))) hv' hrec
   exact ⟨G',_,_,jfa H (by rfl) ⟨fun _ _ h=>h,fun _ _ _ h=>h⟩ K⟩
  ·cases h
 | .ptr _ :: ms,.pv _ _ :: xs,vs,S,st,G,r,st',H,hG,hH,hk,hv,h=>by
  obtain ⟨u,vs',rfl,_,hv'⟩:=hv.tail
  simp only [given] at h
  split at h
  ·rename_i r1 st2 hrec
   cases h
   obtain ⟨G',Θ,B,K⟩:=jba ms xs vs' S st G r1 st' H hG hH (fun ks' hm=>hk ks' (by rcases hm with hm | hm;exact .inl (by simp [hm]);exact .inr (by simp [hm]))) hv' hrec
   exact ⟨G',_,_,jfa H (by rfl) ⟨fun _ _ h=>h,fun _ _ _ h=>h⟩ K⟩
  ·cases h
 | .ptr _ :: ms,.rp _ _ _ :: xs,vs,S,st,G,r,st',H,hG,hH,hk,hv,h=>by
  obtain ⟨u,vs',rfl,_,hv'⟩:=hv.tail
  simp only [given] at h
  split at h
  ·rename_i r1 st2 hrec
   cases h
   obtain ⟨G',Θ,B,K⟩:=jba ms xs vs' S st G r1 st' H hG hH (fun ks' hm=>hk ks' (by rcases hm with hm | hm;exact .inl (by simp [hm]);exact .inr (by simp [hm]))) hv' hrec
   exact ⟨G',_,_,jfa H (by rfl) ⟨fun _ _ h=>h,fun _ _ _ h=>h⟩ K⟩
  ·cases h
 | .ptr _ :: ms,.ov _ _ :: xs,vs,S,st,G,r,st',H,hG,hH,hk,hv,h=>by
  obtain ⟨u,vs',rfl,_,hv'⟩:=hv.tail
  simp only [given] at h
  split at h
  ·rename_i r1 st2 hrec
   cases h
   obtain ⟨G',Θ,B,K⟩:=jba ms xs vs' S st G r1 st' H hG hH (fun ks' hm=>hk ks' (by rcases hm with hm | hm;exact .inl (by simp [hm]);exact .inr (by simp [hm]))) hv' hrec
   exact ⟨G',_,_,jfa H (by rfl) ⟨fun _ _ h=>h,fun _ _ _ h=>h⟩ K⟩
  ·cases h
 | .ptr _ :: ms,.agg _ :: xs,vs,S,st,G,r,st',H,hG,hH,hk,hv,h=>by
  obtain ⟨u,vs',rfl,_,hv'⟩:=hv.tail
  simp only [given] at h
  split at h
  ·rename_i r1 st2 hrec
   cases h
   obtain ⟨G',Θ,B,K⟩:=jba ms xs vs' S st G r1 st' H hG hH (fun ks' hm=>hk ks' (by rcases hm with hm | hm;exact .inl (by simp [hm]);exact .inr (by simp [hm]))) hv' hrec
   exact ⟨G',_,_,jfa H (by rfl) ⟨fun _ _ h=>h,fun _ _ _ h=>h⟩ K⟩
  ·cases h
 | .ptr _ :: ms,.tup _ :: xs,vs,S,st,G,r,st',H,hG,hH,hk,hv,h=>by
  obtain ⟨u,vs',rfl,_,hv'⟩:=hv.tail
  simp only [given] at h
  split at h
  ·rename_i r1 st2 hrec
   cases h
   obtain ⟨G',Θ,B,K⟩:=jba ms xs vs' S st G r1 st' H hG hH (fun ks' hm=>hk ks' (by rcases hm with hm | hm;exact .inl (by simp [hm]);exact .inr (by simp [hm]))) hv' hrec
   exact ⟨G',_,_,jfa H (by rfl) ⟨fun _ _ h=>h,fun _ _ _ h=>h⟩ K⟩
  ·cases h
 | .ptr _ :: ms,.fn _ :: xs,vs,S,st,G,r,st',H,hG,hH,hk,hv,h=>by
  obtain ⟨u,vs',rfl,_,hv'⟩:=hv.tail
  simp only [given] at h
  split at h
  ·rename_i r1 st2 hrec
   cases h
   obtain ⟨G',Θ,B,K⟩:=jba ms xs vs' S st G r1 st' H hG hH (fun ks' hm=>hk ks' (by rcases hm with hm | hm;exact .inl (by simp [hm]);exact .inr (by simp [hm]))) hv' hrec
   exact ⟨G',_,_,jfa H (by rfl) ⟨fun _ _ h=>h,fun _ _ _ h=>h⟩ K⟩
  ·cases h
 | .ptr _ :: ms,.undef :: xs,vs,S,st,G,r,st',H,hG,hH,hk,hv,h=>by
  obtain ⟨u,vs',rfl,_,hv'⟩:=hv.tail
  simp only [given] at h
  split at h
  ·rename_i r1 st2 hrec
   cases h
   obtain ⟨G',Θ,B,K⟩:=jba ms xs vs' S st G r1 st' H hG hH (fun ks' hm=>hk ks' (by rcases hm with hm | hm;exact .inl (by simp [hm]);exact .inr (by simp [hm]))) hv' hrec
   exact ⟨G',_,_,jfa H (by rfl) ⟨fun _ _ h=>h,fun _ _ _ h=>h⟩ K⟩
  ·cases h
 | [],_ :: _,vs,S,st,G,r,st',H,hG,hH,hk,hv,h=>by simp [given] at h
 | m :: _,[],vs,S,st,G,r,st',H,hG,hH,hk,hv,h=>by cases m<;>simp [given] at h
end Go.Den

/- The callee's arguments; the caller's world behind the call. -/
namespace Go.Den
open Go
variable {C:Ctx} {R:Rt} {G G0 G1:Gh} {st st1:St} {a:Act} {w w':World} {o:Oper} {v:SV}

theorem KC.sub {P:Program} {S:Nat→Prop} {L:Nat→Prop} {LB:Nat→Nat→Nat→Prop} {ks:List (Option (Nat × Nat))} {ds:List D} {us:List Value} {θ:Nat→Nat→Prop} (hW:WInv R w) (h:KC P R w ks ds us θ):KC P (R.sub G S w L LB) w ks ds us θ :=
 ⟨h.1,h.2.1,fun j k d u h1 h2 h3=>by
  obtain ⟨h4,h5⟩:=h.2.2 j k d u h1 h2 h3
  refine ⟨h4,?_⟩
  cases k with
  | none=>exact jwd hW h5
  | some p=>exact h5⟩
theorem jeh:∀{ks:List (Option (Nat × Nat))} {ds:List D},scAll ks ds=true→∀(j:Nat) d,ks[j]? = some none→ds[j]? = some d→isSc d=true
 | [],ds,h,j,d,hk,hd=>by simp at hk
 | k :: ks,[],h,j,d,hk,hd=>by simp at hd
 | k :: ks,x :: ds,h,j,d,hk,hd=>by
  cases k with
  | none =>
   simp only [scAll,Bool.and_eq_true] at h
   cases j with
   | zero=>simp at hd;subst hd;exact h.1
   | succ j=>exact jeh h.2 j d (by simpa using hk) (by simpa using hd)
  | some p =>
   simp only [scAll] at h
   cases j with
   | zero=>simp at hk
   | succ j=>exact jeh h j d (by simpa using hk) (by simpa using hd)
theorem KC.back {P:Program} {R':Rt} {ks:List (Option (Nat × Nat))} {ds:List D} {us:List Value} {θ:Nat→Nat→Prop} (h:KC P R' w ks ds us θ) (hs:scAll ks ds=true):KC P R w ks ds us θ :=
 ⟨h.1,h.2.1,fun j k d u h1 h2 h3=>by
  obtain ⟨h4,h5⟩:=h.2.2 j k d u h1 h2 h3
  refine ⟨h4,?_⟩
  cases k with
  | none =>
   have:=jmy (jeh hs j d h1 h2) h5
   rw [this]
   exact jvw (jeh hs j d h1 h2)
  | some p=>exact h5⟩

def oldB (ks:List (Option (Nat × Nat))) (o:List D) (j:Nat):Bool:=match ks[j]?,o[j]? with | some none,some d=>!isSc d | _,_=>false
theorem cleanK_get:∀(ks:List (Option (Nat × Nat))) (o:List D) (j:Nat),(cleanK ks o)[j]? = (o[j]?).map fun d=>if oldB ks o j then .b false else d
 | [],o,j=>by
  simp only [cleanK]
  cases h:o[j]?<;>simp [oldB]
 | k :: ks,[],j=>by cases k<;>simp [cleanK]
 | none :: ks,x :: o,0=>by simp [cleanK,oldB];cases isSc x<;>simp
 | some p :: ks,x :: o,0=>by simp [cleanK,oldB]
 | none :: ks,x :: o,j+1=>by
  have e:oldB (none :: ks) (x :: o) (j+1)=oldB ks o j:=by simp only [oldB,List.getElem?_cons_succ]
  rw [e];exact cleanK_get ks o j
 | some p :: ks,x :: o,j+1=>by
  have e:oldB (some p :: ks) (x :: o) (j+1)=oldB ks o j:=by simp only [oldB,List.getElem?_cons_succ]
  rw [e];exact cleanK_get ks o j
theorem cleanK_len:∀(ks:List (Option (Nat × Nat))) (o:List D),(cleanK ks o).length=o.length
 | [],o=>rfl
 | k :: ks,[]=>by cases k<;>rfl
 | none :: ks,x :: o=>by simp [cleanK,cleanK_len ks o]
 | some p :: ks,x :: o=>by simp [cleanK,cleanK_len ks o]
theorem mixK_get:∀(ks:List (Option (Nat × Nat))) (o:List D) (ws cs:List SV) (j:Nat),o.length=ks.length→ws.length=ks.length→cs.length=ks.length→(mixK ks o ws cs)[j]? = if oldB ks o j then cs[j]? else ws[j]?
 | [],[],[],[],j,_,_,_=>by simp [mixK,oldB]
 | k :: ks,x :: o,w :: ws,c :: cs,0,_,_,_=>by cases k<;>simp [mixK,oldB];cases isSc x<;>simp
 | k :: ks,x :: o,w :: ws,c :: cs,j+1,h1,h2,h3=>by
  cases k<;>simp only [mixK,List.getElem?_cons_succ,oldB]<;>exact mixK_get ks o ws cs j (by simpa using h1) (by simpa using h2) (by simpa using h3)
 | [],_ :: _,_,_,j,h,_,_=>by simp at h
 | [],[],_ :: _,_,j,_,h,_=>by simp at h
 | [],[],[],_ :: _,j,_,_,h=>by simp at h
 | _ :: _,[],_,_,j,h,_,_=>by simp at h
 | _ :: _,_ :: _,[],_,j,_,h,_=>by simp at h
 | _ :: _,_ :: _,_ :: _,[],j,_,_,h=>by simp at h
theorem mixK_len:∀(ks:List (Option (Nat × Nat))) (o:List D) (ws cs:List SV),(mixK ks o ws cs).length=ws.length
 | [],o,ws,cs=>by cases o<;>cases ws<;>rfl
 | none :: ks,[],ws,cs=>rfl
 | none :: ks,x :: o,[],cs=>rfl
 | none :: ks,x :: o,w :: ws,[]=>rfl
 | none :: ks,x :: o,w :: ws,c :: cs=>by simp [mixK,mixK_len ks o ws cs]
 | some p :: ks,[],ws,cs=>rfl
 | some p :: ks,x :: o,[],cs=>rfl
 | some p :: ks,x :: o,w :: ws,[]=>rfl
 | some p :: ks,x :: o,w :: ws,c :: cs=>by simp [mixK,mixK_len ks o ws cs]
theorem oldOk_get:∀{ks:List (Option (Nat × Nat))} {o:List D} {cs:List SV},oldOk ks o cs=true→∀(j:Nat) c,oldB ks o j=true→cs[j]? = some c→bxC c=true
 | [],o,cs,_,j,c,h,_=>by simp [oldB] at h
 | k :: ks,[],cs,_,j,c,h,_=>by simp [oldB] at h
 | k :: ks,x :: o,[],_,j,c,_,h=>by simp at h
 | none :: ks,x :: o,y :: cs,hk,0,c,h,hc=>by
  simp only [oldOk,Bool.and_eq_true,Bool.or_eq_true] at hk
  simp [oldB] at h hc
  subst hc
  rcases hk.1 with h1 | h1
  ·rw [h] at h1;cases h1
  ·exact h1
 | some p :: ks,x :: o,y :: cs,hk,0,c,h,hc=>by simp [oldB] at h
 | none :: ks,x :: o,y :: cs,hk,j+1,c,h,hc=>by
  simp only [oldOk,Bool.and_eq_true] at hk
  exact oldOk_get hk.2 j c (by simpa [oldB] using h) (by simpa using hc)
 | some p :: ks,x :: o,y :: cs,hk,j+1,c,h,hc=>by
  simp only [oldOk] at hk
  exact oldOk_get hk j c (by simpa [oldB] using h) (by simpa using hc)
theorem KC.clean {P:Program} {R':Rt} {ks:List (Option (Nat × Nat))} {o:List D} {us:List Value} {θ:Nat→Nat→Prop} (h:KC P R' w ks o us θ):∃us',KC P R w ks (cleanK ks o) us' θ∧∀(j:Nat) u,us[j]? = some u→oldB ks o j=false→us'[j]? = some u:=by
 obtain ⟨h1,h2,h3⟩:=h
 refine ⟨us.mapIdx fun j u=>if oldB ks o j then .bool false else u,⟨by rw [cleanK_len];exact h1,by rw [cleanK_len];simpa using h2,fun j k d u a1 a2 a3=>?_⟩,fun j u hu ho=>by simp [hu,ho]⟩
 rw [cleanK_get,Option.map_eq_some_iff] at a2
 obtain ⟨d0,b1,b2⟩:=a2
 rw [List.getElem?_mapIdx,Option.map_eq_some_iff] at a3
 obtain ⟨u0,c1,c2⟩:=a3
 obtain ⟨h4,h5⟩:=h3 j k d0 u0 a1 b1 c1
 cases ho:oldB ks o j with
 | true =>
  rw [ho] at b2 c2
  simp at b2 c2
  subst b2 c2
  refine ⟨rfl,?_⟩
  cases k with
  | none=>exact .b false
  | some p=>simp [oldB,a1] at ho
 | false =>
  rw [ho] at b2 c2
  simp at b2 c2
  subst b2 c2
  refine ⟨h4,?_⟩
  cases k with
  | none =>
   have hsc:isSc d0=true:=by simpa [oldB,a1,b1] using ho
   rw [jmy hsc h5];exact jvw hsc
  | some p=>exact h5
theorem KC.back2 {P:Program} {R':Rt} {ks:List (Option (Nat × Nat))} {ds:List D} {us:List Value} {θ:Nat→Nat→Prop} {pr:Bool} (h:KC P R' w ks ds us θ) (hs:(scAll ks ds||pr)=true) (hp:pr=true→∀d u,Rep R'.w0 R'.T d u→Rep R.w0 R.T d u):KC P R w ks ds us θ:=by
 cases hsc:scAll ks ds with
 | true=>exact h.back hsc
 | false =>
  rw [hsc] at hs
  exact ⟨h.1,h.2.1,fun j k d u h1 h2 h3=>by
   obtain ⟨h4,h5⟩:=h.2.2 j k d u h1 h2 h3
   refine ⟨h4,?_⟩
   cases k with
   | none=>exact hp hs _ _ h5
   | some p=>exact h5⟩
theorem pureD_rep {S:Nat→Prop} {L:Nat→Prop} {LB:Nat→Nat→Nat→Prop} {h0:List (Nat × Blk)} (hW:WInv R w) {x:SV} {u:Value} {d:D} (hx:CRel R G0 h0 x u) (hp:pureD x=true) (h:toD st x=some d):Rep w (R.sub G S w L LB).T d u:=by
 cases x with
 | d y=>simp only [toD,Option.some.injEq] at h;subst h;exact jwd hW hx
 | nils=>simp only [toD,Option.some.injEq] at h;subst h;rw [show u=.slice none 0 0 from hx];exact .nil _ _
 | _=>cases hp
theorem pureDs_rep {S:Nat→Prop} {L:Nat→Prop} {LB:Nat→Nat→Nat→Prop} {h0:List (Nat × Blk)} (hW:WInv R w):∀{xs:List SV} {us:List Value} {ds:List D},jla R G0 h0 xs us→pureDs xs=true→toDs st xs=some ds →
  us.length=ds.length∧∀(j:Nat) d,ds[j]? = some d→∃u,us[j]? = some u∧Rep w (R.sub G S w L LB).T d u
 | [],us,ds,hu,hp,h=>by
  simp only [toDs,Option.some.injEq] at h
  subst h
  exact ⟨by simpa using hu.1,fun j d hj=>by simp at hj⟩
 | x :: xs,us,ds,hu,hp,h=>by
  obtain ⟨u,us',rfl,h1,h2,hu'⟩:=hu.tail
  simp only [pureDs,Bool.and_eq_true] at hp
  simp only [toDs] at h
  split at h
  ·rename_i d hd
   split at h
   ·rename_i ds' hds
    cases h
    obtain ⟨h3,h4⟩:=pureDs_rep hW hu' hp.2 hds
    refine ⟨by simp [h3],fun j y hj=>?_⟩
    cases j with
    | zero=>simp at hj;subst hj;exact ⟨u,rfl,pureD_rep hW h2 hp.1 hd⟩
    | succ j=>simpa using h4 j y (by simpa using hj)
   ·cases h
  ·cases h
theorem pure_arg {P:Program} {S:Nat→Prop} {L:Nat→Prop} {LB:Nat→Nat→Nat→Prop} {h0:List (Nat × Blk)} (hW:WInv R w) {x:SV} {v:Value} {d:DV} (hx:VRel R G0 h0 x v) (hp:pureV x=true) (h:argOf st .bor x=some d) (θ:Nat→Nat→Prop):ArgK P (R.sub G S w L LB) .bor d v θ:=by
 cases x with
 | agg cs =>
  simp only [argOf,Option.map_eq_some_iff] at h
  obtain ⟨ds,h1,rfl⟩:=h
  obtain ⟨us,h2,h3⟩:=jvd hx
  obtain ⟨h4,h5⟩:=pureDs_rep (S:=S) (L:=L) (LB:=LB) hW h3 hp h1
  exact ⟨us,h2,h4,h5⟩
 | d y =>
  simp only [argOf,Option.map_eq_some_iff] at h
  obtain ⟨d',h1,rfl⟩:=h
  exact pureD_rep (G0:=G0) (h0:=h0) (x:=.d y) hW hx rfl h1
 | nils =>
  simp only [argOf,Option.map_eq_some_iff] at h
  obtain ⟨d',h1,rfl⟩:=h
  exact pureD_rep (G0:=G0) (h0:=h0) (x:=.nils) hW hx rfl h1
 | _=>cases hp
theorem pureA_get:∀{ms:List Mode} {xs:List SV},pureA ms xs=true→∀(i:Nat) m x,ms[i]? = some m→xs[i]? = some x→(m=.bor∧pureV x=true)∨(∃ks,m=.ptr ks)∨∃ks,m=.own ks
 | [],xs,_,i,m,x,h1,_=>by simp at h1
 | _ :: _,[],_,i,m,x,_,h2=>by simp at h2
 | m0 :: ms,x0 :: xs,hp,i,m,x,h1,h2=>by
  have hp':pureA ms xs=true:=by cases m0<;>simp_all [pureA]
  cases i with
  | zero =>
   simp at h1 h2
   subst h1 h2
   cases m0 with
   | bor=>simp only [pureA,Bool.and_eq_true] at hp;exact .inl ⟨rfl,hp.1⟩
   | ptr ks=>exact .inr (.inl ⟨ks,rfl⟩)
   | own ks=>exact .inr (.inr ⟨ks,rfl⟩)
   | _=>simp [pureA] at hp
  | succ i=>exact pureA_get hp' i m x (by simpa using h1) (by simpa using h2)

theorem jzk {S1 S2:Nat→Prop} {L:Nat→Prop} {LB:Nat→Nat→Nat→Prop} {h0:List (Nat × Blk)} (H:InvS S1 C R G1 st1 a w):∀(ms:List Mode) (xs:List SV) (vs:List Value) (rs:List (Option DV)) (ds:List DV) (Θ:Nat→Nat→Nat→Prop) (B:Nat→Nat→Nat→Nat→Prop),(∀(i:Nat) m x v d θ,ms[i]? = some m→xs[i]? = some x→VRel R G0 h0 x v→argOf st1 m x=some d→ArgK C.P (R.sub G1 S2 w L LB) m d v θ) →
  jpr C.P R w G0 ms xs vs rs Θ B→jca R G0 h0 xs vs→lent st1 ms xs rs=some ds→(∀i k lo hi,LB k lo hi→Θ i 0 k→B i k lo hi)→jwf C.P (R.sub G1 S2 w L LB) ms ds vs Θ
 | [],[],vs,rs,ds,Θ,B,hA,hg,hv,h,hLB=>by
  cases vs with
  | nil=>cases rs with
   | nil=>simp only [lent,Option.some.injEq] at h;subst h;trivial
   | cons r rs=>simp [lent] at h
  | cons v vs=>exact absurd hv.1 (by simp)
 | m :: ms,x :: xs,vs,rs,ds,Θ,B,hA,hg,hv,h,hLB=>by
  obtain ⟨u,vs',rfl,h1,hv'⟩:=hv.tail
  have hA':∀(i:Nat) m x v d θ,ms[i]? = some m→xs[i]? = some x→VRel R G0 h0 x v→argOf st1 m x=some d→ArgK C.P (R.sub G1 S2 w L LB) m d v θ:=fun i m x v d θ a1 a2=>hA (i+1) m x v d θ (by simpa using a1) (by simpa using a2)
  cases rs with
  | nil=>simp [lent] at h
  | cons r rs =>
   obtain ⟨hg1,hg2⟩:=hg
   cases r with
   | none =>
    simp only [lent] at h
    split at h
    ·rename_i d hd
     split at h
     ·rename_i ds' hds
      cases h
      exact ⟨hA 0 m x u d (Θ 0) rfl rfl h1 hd,jzk H ms xs vs' rs ds' _ _ hA' hg2 hv' hds (fun i=>hLB (i+1))⟩
     ·cases h
    ·cases h
   | some d =>
    simp only [lent] at h
    split at h
    ·rename_i ds' hds
     cases h
     refine ⟨?_,jzk H ms xs vs' rs ds' _ _ hA' hg2 hv' hds (fun i=>hLB (i+1))⟩
     cases m with
     | bor=>cases x<;>cases d<;>exact hg1.elim
     | rptr sz=>cases x<;>cases d<;>exact hg1.elim
     | fnp f sz=>cases x<;>cases d<;>exact hg1.elim
     | ptr ks =>
      cases d with
      | one d=>cases x<;>exact hg1.elim
      | agg ds=>cases x<;>exact hg1.elim
      | ptr ds =>
       cases x with
       | ptr n off =>
        obtain ⟨cur,e,us,k1,k2,k3,k4,k5,k6,k7,k8⟩:=hg1
        refine ⟨(G0.base n).1,(G0.base n).2+off,cur,e,us,k1,k2,(k3 _).2 rfl,k5,k6,k7.sub H.W,fun lo hi hlb=>?_⟩
        obtain ⟨_,e1,e2⟩:=(k4 _ lo hi).1 (hLB 0 _ lo hi hlb ((k3 _).2 rfl))
        have:=k7.1
        omega
       | _=>exact hg1.elim
     | own ks =>
      cases d with
      | one d=>cases x<;>exact hg1.1.sub H.W
      | agg ds =>
       cases x with
       | agg cs=>obtain ⟨⟨us,k1,k2⟩,_⟩:=hg1;exact ⟨us,k1,k2.sub H.W⟩
       | _=>exact hg1.elim
      | ptr ds=>cases x<;>exact hg1.elim
     | io ks=>cases x<;>cases d<;>exact hg1.elim
    ·cases h
 | [],_ :: _,vs,rs,ds,Θ,B,hA,hg,hv,h,hLB=>by cases rs<;>simp [lent] at h
 | _ :: _,[],vs,rs,ds,Θ,B,hA,hg,hv,h,hLB=>by cases rs<;>simp [lent] at h

def jyu (R:Rt) (G1:Gh) (S1:Nat→Prop) (w:World) (Θ:Nat→Nat→Nat→Prop) (B:Nat→Nat→Nat→Nat→Prop):Rt:=R.sub G1 S1 w (fun k=>∃i j,Θ i j k) (fun k lo hi=>∃i,B i k lo hi)
theorem givs_noLB {P:Program}:∀{ms:List Mode} {xs:List SV} {vs:List Value} {rs:List (Option DV)} {Θ:Nat→Nat→Nat→Prop} {B:Nat→Nat→Nat→Nat→Prop},jpr P R w G0 ms xs vs rs Θ B→noPtr ms=true→∀i k lo hi,¬ B i k lo hi
 | [],[],[],[],Θ,B,h,_=>h.2
 | [],[],[],_ :: _,Θ,B,h,_=>h.elim
 | [],[],_ :: _,rs,Θ,B,h,_=>by cases rs<;>exact h.elim
 | [],_ :: _,vs,rs,Θ,B,h,_=>by cases vs<;>cases rs<;>exact h.elim
 | _ :: _,[],vs,rs,Θ,B,h,_=>by cases vs<;>cases rs<;>exact h.elim
 | _ :: _,_ :: _,[],rs,Θ,B,h,_=>by cases rs<;>exact h.elim
 | _ :: _,_ :: _,_ :: _,[],Θ,B,h,_=>h.elim
 | m :: ms,x :: xs,v :: vs,r :: rs,Θ,B,h,hn=>fun i k lo hi hb=>by
  obtain ⟨h1,h2⟩:=h
  have hn':noPtr ms=true:=by cases m<;>first | exact hn | cases hn
  cases i with
  | succ i=>exact givs_noLB h2 hn' i k lo hi hb
  | zero =>
   cases m with
   | ptr ks=>cases hn
   | own ks =>
    cases r with
    | none=>cases x<;>exact h1.2 k lo hi hb
    | some d =>
     cases d with
     | one d=>cases x<;>exact h1.2.2 k lo hi hb
     | agg d=>cases x<;>first | exact h1.2.2 k lo hi hb | exact h1.elim
     | ptr d=>cases x<;>exact h1.elim
   | _ =>
    cases r with
    | none=>cases x<;>exact h1.2 k lo hi hb
    | some d=>cases x<;>cases d<;>exact h1.elim
theorem jbz {S S2:Nat→Prop} {h0:List (Nat × Blk)} {sg:Sig} {xs:List SV} {vs:List Value} {r:List (Option DV)} {ds:List DV} {Θ:Nat→Nat→Nat→Prop} {B:Nat→Nat→Nat→Nat→Prop} (hG:Gle G G0) (K:Given C R G0 h0 S G st a w sg.ms xs vs r st1 G1 Θ B) (hv:jca R G0 h0 xs vs) (hl:lent st1 sg.ms xs r=some ds) (hS2:∀n,(S n∨n∈lentN sg.ms xs)→S2 n)
  (hA:∀(i:Nat) m x v d θ,sg.ms[i]? = some m→xs[i]? = some x→VRel R G0 h0 x v→argOf st1 m x=some d→ArgK C.P (jyu R G1 S2 w Θ B) m d v θ) :
  Pre C.P sg (jyu R G1 S2 w Θ B) ds vs Θ where
 W:={
  os:=rfl,tape:=rfl,output:=rfl,size:=Nat.le_refl _
  T:=fun k hk=>by
   rcases hk with hk | ⟨n,⟨hn,hS⟩,hk⟩
   ·refine ⟨Nat.lt_of_lt_of_le (K.inv.W.T k hk).1 K.inv.W.size,fun ⟨i,j,h⟩=>?_⟩
    rcases (K.mine i j k h).2 with h2 | h2
    ·exact (K.inv.W.T k hk).2 h2
    ·have:=(K.inv.W.T k hk).1;omega
   ·exact ⟨(K.inv.B.mine n hn (fun h=>hS (hS2 n h)) k hk).1,fun ⟨i,j,h⟩=>K.sep i j k n h hn (fun h=>hS (hS2 n h)) hk⟩
  old:=fun _ _ _=>rfl
  out:=fun k lo hi ⟨i,h⟩=>by
   obtain ⟨_,cur,e,h2⟩:=K.blk i k lo hi h
   exact ⟨cur,cur,e,(0,0),h2,h2,rfl,fun _ _=>rfl⟩ }
 args:=jzk K.inv _ _ _ _ _ _ _ hA K.givs hv hl (fun i k lo hi ⟨i',h⟩ hk=>by
  obtain ⟨h2,_⟩:=K.blk i' k lo hi h
  obtain ⟨rfl,_⟩:=K.apart _ _ _ _ _ h2 hk
  exact h)
 mine:=fun i j k h=>⟨(K.mine i j k h).1,i,j,h⟩
 lb:=fun i j k h lo hi ⟨i',h'⟩=>by
  obtain ⟨h2,_⟩:=K.blk i' k lo hi h'
  have:=(K.apart _ _ _ _ _ h h2).2
  omega
 apart:=K.apart
 noLB:=fun hn k lo hi ⟨i,h⟩=>givs_noLB K.givs hn i k lo hi h
theorem jzx {S S2:Nat→Prop} {h0:List (Nat × Blk)} {ms:List Mode} {xs:List SV} {vs:List Value} {r:List (Option DV)} {Θ:Nat→Nat→Nat→Prop} {B:Nat→Nat→Nat→Nat→Prop} (K:Given C R G0 h0 S G st a w ms xs vs r st1 G1 Θ B) (hW:WInv (jyu R G1 S2 w Θ B) w') :
  WInv R w'∧InvS (fun n=>S n∨n∈lentN ms xs) C R G1 st1 a w':=by
 have H:=K.inv.W
 have h1:WInv R w':={
  os:=hW.os.trans H.os,tape:=hW.tape.trans H.tape,output:=hW.output.trans H.output,size:=Nat.le_trans H.size hW.size,T:=H.T
  old:=fun k hk hL=>(hW.old k (Nat.lt_of_lt_of_le hk H.size) (fun ⟨i,j,h⟩=>by rcases (K.mine i j k h).2 with h2 | h2;exact hL h2;omega)).trans (H.old k hk hL)
  out:=fun k lo hi hlb=>by
   obtain ⟨c,c0,e,fz,q1,q2,q3,q4⟩:=H.out k lo hi hlb
   have hk:k < w.heap.size:=(Array.getElem?_eq_some_iff.1 q2).1
   by_cases hL:∃i j,Θ i j k
   ·obtain ⟨i,j,hij⟩:=hL
    cases j with
    | succ j=>exact (K.lb i j k hij lo hi hlb).elim
    | zero =>
     obtain ⟨lo',hi',hB,hbd⟩:=K.box i k hij
     obtain ⟨b1,b2⟩:=hbd lo hi hlb
     obtain ⟨c',c0',e',fz',p1,p2,p3,p4⟩:=hW.out k lo' hi' ⟨i,hB⟩
     have p1':w.heap[k]? = _:=p1
     rw [q2] at p1'
     cases p1'
     exact ⟨c',c0,e,fz,q1,p2,p3.trans q3,fun o ho=>(p4 o (by omega)).trans (q4 o ho)⟩
   ·exact ⟨c,c0,e,fz,q1,(hW.old k hk hL).trans q2,q3,q4⟩ }
 exact ⟨h1,jvp K.inv h1 hW.size (fun n hn hS k hk=>hW.old k (K.inv.B.mine n hn hS k hk).1 (fun ⟨i,j,h⟩=>K.sep i j k n h hn hS hk))⟩
end Go.Den

/- What was handed over comes back. -/
namespace Go.Den
open Go
variable {C:Ctx} {R:Rt} {G G0 G1:Gh} {st st1:St} {a:Act} {w w':World} {o:Oper} {v:SV}

theorem jgb:∀(xs ys:List (Nat × Blk)) (st:St),adds st (xs++ys)=match adds st xs with | some st1=>adds st1 ys | none=>none
 | [],ys,st=>rfl
 | (n,b) :: xs,ys,st=>by
  simp only [List.cons_append,adds]
  split
  ·rfl
  ·exact jgb xs ys _
theorem jpc:∀{ns:List Nat} {n:Nat},isIn ns n=true↔n∈ns
 | [],n=>by simp [isIn]
 | k :: ks,n=>by
  simp only [isIn,List.mem_cons]
  by_cases h:k=n
  ·simp [h]
  ·rw [if_neg h,jpc]
   simp [Ne.symm h]
theorem jnq:∀{h:List (Nat × Blk)} {n:Nat},n∈names h→∃b,hlk h n=some b
 | [],n,hn=>by simp [names] at hn
 | (k,b) :: r,n,hn=>by
  simp only [names,List.mem_cons] at hn
  by_cases hk:k=n
  ·exact ⟨b,by simp [hlk,hk]⟩
  ·obtain ⟨b',h1⟩:=jnq (h:=r) (hn.resolve_left (fun e=>hk e.symm))
   exact ⟨b',by simp [hlk,hk,h1]⟩
theorem jpt {sus:List Nat}:∀{new:List (Nat × Blk)},freeN sus new=true→∀p∈new,p.1 ∉ sus
 | [],_,p,hp=>by simp at hp
 | (n,b) :: r,h,p,hp=>by
  simp only [freeN] at h
  split at h
  ·cases h
  ·rename_i hn
   simp only [List.mem_cons] at hp
   rcases hp with rfl | hp
   ·exact fun hm=>hn (jpc.2 hm)
   ·exact jpt h p hp
theorem jvc (ns:List Nat):∀(cs:List SV),(keepCs ns cs).length=cs.length
 | []=>rfl
 | c :: cs=>by simp [keepCs,jvc ns cs]
theorem jrf (ns:List Nat):∀(cs:List SV) (j:Nat),(keepCs ns cs)[j]? = (cs[j]?).map (keepC ns)
 | [],j=>by simp [keepCs]
 | c :: cs,0=>by simp [keepCs]
 | c :: cs,j+1=>by simp [keepCs,jrf ns cs]
theorem jdr {ns:List Nat} {h0 h:List (Nat × Blk)} {x:SV} {u:Value} (hs:∀n∈ns,G0.live n→Same G0 h0 G h n) (hx:CRel R G0 h0 x u):CRel R G h (keepC ns x) u:=by
 have hs':∀n,isIn ns n=true→G0.live n→Same G0 h0 G h n:=fun n hn=>hs n (jpc.1 hn)
 cases x with
 | own n =>
  simp only [keepC]
  split
  ·rename_i hn;exact jea (x:=.own n) (fun m hm=>by cases hm;exact hs' n hn hx.1) hx
  ·trivial
 | rp n i q =>
  simp only [keepC]
  split
  ·rename_i hn;exact jea (x:=.rp n i q) (fun m hm=>by cases hm;exact hs' n hn hx.1) hx
  ·trivial
 | ov n i =>
  simp only [keepC]
  split
  ·rename_i hn;exact jea (x:=.ov n i) (fun m hm=>by cases hm;exact hs' n hn hx.1) hx
  ·trivial
 | ptr n q =>
  simp only [keepC]
  split
  ·rename_i hn;exact jea (x:=.ptr n q) (fun m hm=>by cases hm;exact hs' n hn hx.1) hx
  ·trivial
 | fp f n q =>
  simp only [keepC]
  split
  ·rename_i hn;exact jea (x:=.fp f n q) (fun m hm=>by cases hm;exact hs' n hn hx.1) hx
  ·trivial
 | op b cs=>exact hx
 | fb f cs=>exact hx
 | bx n j x=>exact hx
 | agg cs=>exact hx
 | tup cs=>exact hx
 | d x=>exact hx
 | nils=>exact hx
 | nilp=>exact hx
 | pv cs o=>exact hx
 | fn f=>exact hx
 | undef=>trivial

theorem jrz {S:Nat→Prop} {n:Nat} {cs:List SV} {ψ:Nat→Prop} (H:InvS S C R G st a w) (hl:G.live n) (hS:S n) (hn:hlk st.h n=none) (hb:BRel R (G.turn n (G.hv n) ψ) (st.h++[(n,.box cs)]) C.P w n (.box cs))
  (hψ:∀k,ψ k→k < w.heap.size∧(R.L k∨R.w0.heap.size≤k)) (hd:∀k m,ψ k→G.live m→¬ S m→G.φ m k→False) :
  InvS (fun k=>S k∧k≠n) C R (G.turn n (G.hv n) ψ) { st with h:=st.h++[(n,.box cs)] } a w∧(∀k,Same G st.h (G.turn n (G.hv n) ψ) (st.h++[(n,.box cs)]) k)∧Fr G st.h (G.turn n (G.hv n) ψ) (st.h++[(n,.box cs)]):=by
 have hs:∀k,Same G st.h (G.turn n (G.hv n) ψ) (st.h++[(n,.box cs)]) k:=fun k hk=>⟨hk,rfl,by simp only [Gh.turn];split<;>simp_all,fun e sz xs hx=>⟨xs,by rw [jka,hx]⟩⟩
 have hnot:∀{k:Nat},¬ (S k∧k≠n)→k≠n→¬ S k:=fun h1 h2 h3=>h1 ⟨h3,h2⟩
 refine ⟨⟨H.W,⟨fun k hk hkS=>?_,fun k m hk hkS hm hmS hkm j hj1 hj2=>?_,fun k hk hkS j hj=>?_,fun k b' hf=>?_⟩,fun k b hk=>?_,fun t=>jib hs (H.slots t),H.l,H.m⟩,hs,fun m xs ⟨h1,h2,h3⟩=>⟨h1,by rw [jka,h2],h3⟩⟩
 ·by_cases hkn:k=n
  ·subst hkn;exact ⟨.box cs,by show hlk (st.h++[(k,.box cs)]) k=_;rw [jka,hn];simp,hb⟩
  ·obtain ⟨b,h1,h2⟩:=H.B.rel k hk (hnot hkS hkn)
   exact ⟨b,by show hlk (st.h++[(n,.box cs)]) k=_;rw [jka,h1],jhb hs (by simp [Gh.turn,hkn]) rfl (by simp [Gh.turn,hkn]) h2⟩
 ·simp only [Gh.turn] at hj1 hj2
  by_cases hk':k=n
  ·subst hk'
   rw [if_pos rfl] at hj1
   rw [if_neg (Ne.symm hkm)] at hj2
   exact hd j m hj1 hm (hnot hmS (Ne.symm hkm)) hj2
  ·rw [if_neg hk'] at hj1
   by_cases hm':m=n
   ·subst hm'
    rw [if_pos rfl] at hj2
    exact hd j k hj2 hk (hnot hkS hk') hj1
   ·rw [if_neg hm'] at hj2
    exact H.B.disj k m hk (hnot hkS hk') hm (hnot hmS hm') hkm j hj1 hj2
 ·simp only [Gh.turn] at hj
  by_cases hk':k=n
  ·rw [if_pos hk'] at hj;exact hψ j hj
  ·rw [if_neg hk'] at hj;exact H.B.mine k hk (hnot hkS hk') j hj
 ·obtain ⟨h1,h2,h3⟩:=H.B.fix k b' hf
  refine ⟨h1,h2,fun hkS=>?_⟩
  by_cases hkn:k=n
  ·subst hkn;exact ⟨cs,by show hlk (st.h++[(k,.box cs)]) k=_;rw [jka,hn];simp⟩
  ·obtain ⟨ds,hc⟩:=h3 (hnot hkS hkn)
   exact ⟨ds,by show hlk (st.h++[(n,.box cs)]) k=_;rw [jka,hc]⟩
 ·have hk':hlk (st.h++[(n,.box cs)]) k=some b:=hk
  rw [jka] at hk'
  rintro ⟨h1,h2⟩
  cases hh:hlk st.h k with
  | some z=>exact H.all k z hh h1
  | none =>
   rw [hh] at hk'
   simp [Ne.symm h2] at hk'

def jre (R:Rt) (G0:Gh) (h0:List (Nat × Blk)) (w1 w:World):List Mode→List SV→Prop
 | .ptr ks :: ms,.ptr n off :: xs=>(∀cs,hlk h0 n=some (.box cs)→∃cur e,w.heap[(G0.base n).1]? = some (.cells cur e (0,0))∧(G0.base n).2+cs.length≤cur.size∧(∀lo hi,R.LB (G0.base n).1 lo hi→lo≤(G0.base n).2∧(G0.base n).2+cs.length≤hi) ∧
   ∀(j:Nat) x,cs[j]? = some x→(j < off∨off+ks.length≤j)→∃u,cur[(G0.base n).2+j]? = some u∧u.oneCell'=true∧CRel R G0 h0 x u)∧(∀cs,hlk h0 n=some (.box cs)→∀(j:Nat) x,cs[j]? = some x→∃u,w1.cell? ⟨(G0.base n).1,(G0.base n).2+j,none⟩=some u∧u.oneCell'=true∧CRel R G0 h0 x u)∧jre R G0 h0 w1 w ms xs
 | _ :: ms,_ :: xs=>jre R G0 h0 w1 w ms xs
 | _,_=>True
theorem jps {R':Rt} (H:Inv C R G st a w) (hW:WInv R' w') (hR:R'.w0=w):∀(ms:List Mode) (xs:List SV) (vs:List Value) (rs:List (Option DV)) (Θ:Nat→Nat→Nat→Prop) (B:Nat→Nat→Nat→Nat→Prop),jpr C.P R w G ms xs vs rs Θ B→(∀i k lo hi,B i k lo hi→R'.LB k lo hi)→jca R G st.h xs vs→jre R G st.h w w' ms xs
 | [],xs,vs,rs,Θ,B,hg,hB,hv=>by cases xs<;>trivial
 | m :: ms,[],vs,rs,Θ,B,hg,hB,hv=>by cases m<;>trivial
 | m :: ms,x :: xs,vs,rs,Θ,B,hg,hB,hv=>by
  obtain ⟨u,vs',rfl,h1,hv'⟩:=hv.tail
  cases rs with
  | nil=>exact hg.elim
  | cons r rs =>
   obtain ⟨hg1,hg2⟩:=hg
   have hrec:=jps H hW hR ms xs vs' rs _ _ hg2 (fun i=>hB (i+1)) hv'
   by_cases hp:∃ks n off,m=.ptr ks∧x=.ptr n off
   ·obtain ⟨ks,n,off,rfl,rfl⟩:=hp
    refine ⟨fun cs hcs=>?_,fun cs hcs j y hj=>?_,hrec⟩
    case refine_2 =>
     obtain ⟨hl,hu⟩:=h1
     obtain ⟨b,hb',hbr⟩:=H.B.rel n hl id
     rw [hcs] at hb';cases hb'
     obtain ⟨cur,e,r1,r2,r3,r4,r5⟩:=hbr
     obtain ⟨q,q1,q2,q3⟩:=r5 j y hj
     exact ⟨q,by rw [cell_of_row w _ _ cur e (0,0) r1];exact q1,q2,q3⟩
    obtain ⟨hl,hu⟩:=h1
    obtain ⟨b,hb',hbr⟩:=H.B.rel n hl id
    rw [hcs] at hb';cases hb'
    obtain ⟨cur,e,r1,r2,r3,r4,r5⟩:=hbr
    cases r with
    | none=>exact hg1.elim
    | some d =>
     cases d with
     | one d=>exact hg1.elim
     | agg d=>exact hg1.elim
     | ptr ds =>
      obtain ⟨cur0,e0,us,k1,k2,k3,k4,k5,k6,k7,k8⟩:=hg1
      obtain ⟨c',c0',e',fz',p1,p2,p3,p4⟩:=hW.out _ _ _ (hB 0 _ _ _ ((k4 _ _ _).2 ⟨rfl,rfl,rfl⟩))
      rw [hR,r1] at p1
      cases p1
      refine ⟨c',_,p2,by rw [p3];exact r4,r3,fun j y hj ho=>?_⟩
      obtain ⟨q,q1,q2,q3⟩:=r5 j y hj
      exact ⟨q,by rw [p4 _ (by omega)];exact q1,q2,q3⟩
   ·have:jre R G st.h w w' (m :: ms) (x :: xs)=jre R G st.h w w' ms xs:=by
     cases m with
     | ptr ks=>cases x<;>first | rfl | exact absurd ⟨_,_,_,rfl,rfl⟩ hp
     | _=>rfl
    rw [this]
    exact hrec

theorem jyh {R':Rt} {w1:World} {h0:List (Nat × Blk)} {ns sus:List Nat}:∀(ms:List Mode) (xs:List SV) (vs:List Value) (outs:List (List D)) (st:St) (G:Gh) (Ω:Nat→Nat→Nat→Prop) (st2:St),InvS (fun n=>n∈lentN ms xs) C R G st a w →
  (∀n∈lentN ms xs,G.live n∧G.base n=G0.base n)→(lentN ms xs).Nodup→(∀n∈lentN ms xs,n∈sus)→(∀n∈ns,G0.live n→Same G0 h0 G st.h n)→jre R G0 h0 w1 w ms xs→jca R G0 h0 xs vs→R'.w0=w1→jyc C.P R' w ms vs outs Ω →
  (∀i j k,Ω i j k→k < w.heap.size∧(R.L k∨R.w0.heap.size≤k))→(∀i j k,Ω i (j+1) k→∀lo hi,¬ R.LB k lo hi)→jic Ω→(∀i j k n,Ω i j k→G.live n→n ∉ lentN ms xs→G.φ n k→False)→backs h0 ns sus st ms xs outs=some st2 →
  ∃G2,Inv C R G2 st2 a w∧(∀n,Same G st.h G2 st2.h n)∧(∀n k,G2.live n→G2.φ n k→(G.live n∧n ∉ lentN ms xs∧G.φ n k)∨∃i j,Ω i j k)∧Fr G st.h G2 st2.h
 | [],[],vs,outs,st,G,Ω,st2,H,hlv,hnd,hsus,hns,hL,hv,hPR,hO,hm,hlb,hap,hsep,h=>by
  cases outs with
  | cons o os=>simp [backs] at h
  | nil =>
   simp only [backs,Option.some.injEq] at h
   subst h
   have e:(fun n=>n∈lentN [] [])=fun _=>False:=funext fun n=>by simp [lentN]
   rw [e] at H
   exact ⟨G,H,Same.refl G st.h,fun n k h1 h2=>.inl ⟨h1,by simp [lentN],h2⟩,Fr.refl _ _⟩
 | m :: ms,x :: xs,vs,outs,st,G,Ω,st2,H,hlv,hnd,hsus,hns,hL,hv,hPR,hO,hm,hlb,hap,hsep,h=>by
  obtain ⟨u,vs',rfl,h1,hv'⟩:=hv.tail
  have ap1:jic fun i=>Ω (i+1):=fun i j i' j' k h1 h2=>by obtain ⟨e1,e2⟩:=hap _ _ _ _ _ h1 h2;exact ⟨by omega,e2⟩
  by_cases hp:∃ks,m=.ptr ks
  ·obtain ⟨ks,rfl⟩:=hp
   by_cases hx:∃n off,x=.ptr n off
   ·obtain ⟨n,off,rfl⟩:=hx
    cases outs with
    | nil=>simp [backs] at h
    | cons o os =>
     simp only [backs] at h
     split at h
     ·rename_i cs hcs
      split at h
      ·rename_i hlen
       obtain ⟨hlen,hsc⟩:=hlen
       split at h
       ·rename_i ws new hlay
        split at h
        ·rename_i hfree
         split at h
         ·rename_i st3 hadds
          rw [jgb] at hadds
          split at hadds
          ·rename_i st4 hadds4
           obtain ⟨hnone,hst3⟩:=jid hadds
           obtain ⟨⟨g,b,cur,e,us,o1,o2,o3,o4,o5,o6,o7⟩,hO'⟩:=hO
           obtain ⟨us',o8,o9⟩:=KC.clean (R:=R) o6
           obtain ⟨hLn,hLw,hL'⟩:=hL
           obtain ⟨cur',e',l1,l2,l3,l4⟩:=hLn cs hcs
           obtain ⟨hl0,hu⟩:=h1
           rw [hu] at o1
           simp only [Value.pointer.injEq,Option.some.injEq,Addr.mk.injEq,and_true] at o1
           obtain ⟨rfl,rfl⟩:=o1
           rw [l1] at o2;cases o2
           have hmem:n∈lentN (.ptr ks :: ms) (.ptr n off :: xs):=by simp [lentN]
           obtain ⟨hlive,hbase⟩:=hlv n hmem
           have hnd':n ∉ lentN ms xs∧(lentN ms xs).Nodup:=by simpa [lentN] using hnd
           obtain ⟨Ga,a1,a2,a3,a4,a5,a6⟩:=jmd (backN n off ((cs.drop off).take ks.length)) ks (cleanK ks o) us' (fun j=>Ω 0 (j+1)) ws new G st st4 hlay H o8 (fun j k hk=>⟨(hm 0 (j+1) k hk).1,(hm 0 (j+1) k hk).2,hlb 0 j k hk⟩) (fun i j k hi hj=>by have:=(hap _ _ _ _ _ hi hj).2;omega) (fun j k m' hk h2 h3 h4=>hsep 0 (j+1) k m' hk h2 h3 h4) (fun p hp hmem'=>jpt hfree p hp (hsus _ hmem')) hadds4
           have hGal:Ga.live n:=(a2 n hlive).1
           have hGab:Ga.base n=G0.base n:=((a2 n hlive).2.1).trans hbase
           have hws:ws.length=ks.length:=by rw [←a3.1,o8.2.1,←o8.1]
           have hol:o.length=ks.length:=o6.1.symm
           have hcl:((cs.drop off).take ks.length).length=ks.length:=by simp;omega
           obtain ⟨q1,q2⟩:=jxb (keepCs ns cs) off (mixK ks o ws ((cs.drop off).take ks.length)) (by rw [jvc,mixK_len,hws];exact hlen)
           rw [jvc] at q1
           have hsameA:∀k,Same Ga st4.h (Ga.turn n (Ga.hv n) (Ω 0 0)) (st4.h++[(n,.box (setRange (keepCs ns cs) off (mixK ks o ws ((cs.drop off).take ks.length))))]) k:=fun k hk=>⟨hk,rfl,by simp only [Gh.turn];split<;>simp_all,fun e sz xs hx=>⟨xs,by rw [jka,hx]⟩⟩
           obtain ⟨b1,b2,b3⟩:=jrz (cs:=setRange (keepCs ns cs) off (mixK ks o ws ((cs.drop off).take ks.length))) (ψ:=Ω 0 0) a1 hGal hmem hnone ⟨cur,e,by show w.heap[(Ga.base n).1]? = _;rw [hGab];exact l1,by simp only [Gh.turn,if_true];rw [hGab];exact o3,by show ∀lo hi,R.LB (Ga.base n).1 lo hi→lo≤(Ga.base n).2∧(Ga.base n).2+_≤hi;rw [hGab,q1];exact l3,by show (Ga.base n).2+_≤_;rw [hGab,q1];exact l2,fun j y hj=>by
             show ∃u,cur[(Ga.base n).2+j]? = some u∧_
             rw [hGab]
             rw [q2 j] at hj
             split at hj
             ·rename_i hjr
              rw [mixK_get _ _ _ _ _ hol hws hcl] at hj
              have hju:(j - off) < us.length:=by rw [mixK_len,hws] at hjr;rw [o6.2.1,hol];omega
              cases hold:oldB ks o (j - off) with
              | false =>
               rw [hold] at hj
               simp only [Bool.false_eq_true,if_false] at hj
               obtain ⟨q,k1,k2,k3⟩:=a3.2 _ y hj
               refine ⟨q,?_,k2,jea (fun m' _=>hsameA m') k3⟩
               have e1:=o9 (j - off) us[j - off] (by simp) hold
               rw [k1] at e1;cases e1
               have:=o5 (j - off) us[j - off] (by simp)
               rw [show (G0.base n).2+j=(G0.base n).2+off+(j - off) by omega]
               exact this
              | true =>
               rw [hold] at hj
               simp only [if_true] at hj
               have hbx:=oldOk_get hsc _ y hold hj
               rw [List.getElem?_take] at hj
               split at hj
               ·rw [List.getElem?_drop] at hj
                obtain ⟨u1,m1,m2,m3⟩:=hLw cs hcs _ y hj
                obtain ⟨d1,f1,f2,f3⟩:∃d,ks[j - off]? = some none∧o[j - off]? = some d∧isSc d=false:=by
                 unfold oldB at hold
                 split at hold
                 ·rename_i d f1 f2;exact ⟨d,f1,f2,by simpa using hold⟩
                 ·cases hold
                have e1:=o7 (j - off) d1 us[j - off] f1 f2 f3 (by simp)
                rw [hPR] at e1
                rw [show (G0.base n).2+(off+(j - off))=(G0.base n).2+off+(j - off) by omega,e1] at m1
                cases m1
                refine ⟨us[j - off],?_,m2,?_⟩
                ·have:=o5 (j - off) us[j - off] (by simp)
                 rw [show (G0.base n).2+j=(G0.base n).2+off+(j - off) by omega]
                 exact this
                ·cases y<;>first | exact m3 | cases hbx
               ·cases hj
             ·rename_i hjr
              rw [mixK_len,hws] at hjr
              rw [jrf,Option.map_eq_some_iff] at hj
              obtain ⟨y',hy',rfl⟩:=hj
              obtain ⟨q,k1,k2,k3⟩:=l4 j y' hy' (by omega)
              exact ⟨q,k1,k2,jea (fun m' _=>hsameA m') (jea (fun m' _=>a2 m') (jdr hns k3))⟩⟩ (fun k hk=>hm 0 0 k hk) (fun k m' hk h2 h3 h4=>by
             rcases a5 m' k h2 h4 with ⟨h5,h6⟩ | ⟨j,hj⟩
             ·exact hsep 0 0 k m' hk h5 h3 h6
             ·have:=(hap _ _ _ _ _ hk hj).2;omega)
           subst hst3
           have eS:(fun k=>k∈lentN (.ptr ks :: ms) (.ptr n off :: xs)∧k≠n)=fun k=>k∈lentN ms xs:=funext fun k=>propext (by
            simp only [lentN,List.mem_cons]
            constructor
            ·rintro ⟨h | h,h2⟩;exact absurd h h2;exact h
            ·intro h;exact ⟨.inr h,fun e=>hnd'.1 (e ▸ h)⟩)
           rw [eS] at b1
           obtain ⟨G2,c1,c2,c3,c4⟩:=jyh ms xs vs' os _ (Ga.turn n (Ga.hv n) (Ω 0 0)) (fun i=>Ω (i+1)) st2 b1 (fun k hk=>by
             obtain ⟨h2,h3⟩:=hlv k (by simp [lentN,hk])
             obtain ⟨h4,h5,_⟩:=a2 k h2
             exact ⟨h4,h5.trans h3⟩) hnd'.2 (fun k hk=>hsus k (by simp [lentN,hk])) (fun k hk hk0=>(hns k hk hk0).trans ((a2 k).trans (b2 k))) hL' hv' hPR hO' (fun i j k hk=>hm (i+1) j k hk) (fun i j k hk=>hlb (i+1) j k hk) ap1 (fun i j k m' hk h2 h3 h4=>by
             simp only [Gh.turn] at h4
             split at h4
             ·have:=(hap _ _ _ _ _ hk h4).1;omega
             ·rename_i hmn
              rcases a5 m' k h2 h4 with ⟨h5,h6⟩ | ⟨j',hj'⟩
              ·exact hsep (i+1) j k m' hk h5 (by simp only [lentN,List.mem_cons];rintro (h | h);exact hmn h;exact h3 h) h6
              ·have:=(hap _ _ _ _ _ hk hj').1;omega) h
           refine ⟨G2,c1,fun k=>(a2 k).trans ((b2 k).trans (c2 k)),fun k j h2 h3=>?_,a6.trans (b3.trans c4)⟩
           rcases c3 k j h2 h3 with ⟨h4,h5,h6⟩ | ⟨i,j',hj'⟩
           ·simp only [Gh.turn] at h6
            split at h6
            ·exact .inr ⟨0,0,h6⟩
            ·rename_i hkn
             rcases a5 k j h4 h6 with ⟨h7,h8⟩ | ⟨j',hj'⟩
             ·exact .inl ⟨h7,by simp only [lentN,List.mem_cons];rintro (h | h);exact hkn h;exact h5 h,h8⟩
             ·exact .inr ⟨0,j' + 1,hj'⟩
           ·exact .inr ⟨i+1,j',hj'⟩
          ·cases hadds
         ·cases h
        ·cases h
       ·cases h
      ·cases h
     ·cases h
   ·exfalso
    cases x<;>first | exact hx ⟨_,_,rfl⟩ | (simp [backs] at h)
  ·have hio:¬ ∃ks,m=.io ks:=fun ⟨ks,e⟩=>by subst e;simp [backs] at h
   have hl:lentN (m :: ms) (x :: xs)=lentN ms xs:=by cases m<;>first | exact absurd ⟨_,rfl⟩ hp | (cases x<;>rfl)
   have hL':jre R G0 h0 w1 w ms xs:=by cases m<;>first | exact absurd ⟨_,rfl⟩ hp | (cases x<;>exact hL)
   have hO':jyc C.P R' w ms vs' outs (fun i=>Ω (i+1)):=by cases m<;>first | exact absurd ⟨_,rfl⟩ hp | exact absurd ⟨_,rfl⟩ hio | (cases outs<;>exact hO)
   have hb':backs h0 ns sus st ms xs outs=some st2:=by cases m<;>first | exact absurd ⟨_,rfl⟩ hp | exact absurd ⟨_,rfl⟩ hio | (simpa [backs] using h)
   rw [hl] at H hlv hnd hsus hsep
   obtain ⟨G2,c1,c2,c3,c4⟩:=jyh ms xs vs' outs st G (fun i=>Ω (i+1)) st2 H hlv hnd hsus hns hL' hv' hPR hO' (fun i j k hk=>hm (i+1) j k hk) (fun i j k hk=>hlb (i+1) j k hk) ap1 (fun i j k m' hk=>hsep (i+1) j k m' hk) hb'
   refine ⟨G2,c1,c2,fun k j h2 h3=>?_,c4⟩
   rw [hl]
   rcases c3 k j h2 h3 with h4 | ⟨i,j',hj'⟩
   ·exact .inl h4
   ·exact .inr ⟨i+1,j',hj'⟩
 | [],_ :: _,vs,outs,st,G,Ω,st2,H,hlv,hnd,hsus,hns,hL,hv,hPR,hO,hm,hlb,hap,hsep,h=>by cases outs<;>simp [backs] at h
 | m :: _,[],vs,outs,st,G,Ω,st2,H,hlv,hnd,hsus,hns,hL,hv,hPR,hO,hm,hlb,hap,hsep,h=>by cases m<;>cases outs<;>simp [backs] at h
end Go.Den

/- A call that writes to own slices where they stand. -/
namespace Go.Den
open Go
variable {C:Ctx} {R:Rt} {G G0 G1:Gh} {st st1:St} {a:Act} {w w':World} {o:Oper} {v:SV}

theorem jdq:∀(ns:List Nat) (h:List (Nat × Blk)) (n:Nat),hlk (jnc h ns) n=if n∈ns then none else hlk h n
 | [],h,n=>by simp [jnc]
 | k :: ns,h,n=>by
  simp only [jnc,jdq ns,jwa,List.mem_cons]
  by_cases h1:n∈ns
  ·simp [h1]
  ·by_cases h2:n=k<;>simp [h1,h2]
def PosI (ms:List Mode) (xs:List SV) (i j n:Nat):Prop:=∃ks v,ms[i]? = some (.io ks)∧xs[i]? = some v∧(cellsOf v)[j]? = some (.own n)
theorem jsd:∀{cs:List SV} {n:Nat},n∈jaa cs↔∃j:Nat,cs[j]? = some (.own n)
 | [],n=>by simp [jaa]
 | c :: cs,n=>by
  simp only [jaa,List.mem_append,jsd (cs:=cs)]
  constructor
  ·rintro (h | ⟨j,h⟩)
   ·cases c<;>simp [ownC] at h;subst h;exact ⟨0,rfl⟩
   ·exact ⟨j+1,by simpa using h⟩
  ·rintro ⟨j,h⟩
   cases j with
   | zero=>simp at h;subst h;exact .inl (by simp [ownC])
   | succ j=>exact .inr ⟨j,by simpa using h⟩
theorem jkr:∀{cs:List SV} {n j j':Nat},(jaa cs).Nodup→cs[j]? = some (.own n)→cs[j']? = some (.own n)→j=j'
 | [],n,j,j',_,h,_=>by simp at h
 | c :: cs,n,j,j',hd,h,h'=>by
  simp only [jaa,List.nodup_append] at hd
  have no:∀{i:Nat},c=.own n→cs[i]? = some (.own n)→False:=fun e hi=>hd.2.2 n (by rw [e];simp [ownC]) n (jsd.2 ⟨_,hi⟩) rfl
  cases j with
  | zero =>
   cases j' with
   | zero=>rfl
   | succ j'=>exact (no (by simpa using h) (by simpa using h')).elim
  | succ j =>
   cases j' with
   | zero=>exact (no (by simpa using h') (by simpa using h)).elim
   | succ j'=>have:=jkr hd.2.1 (j:=j) (j':=j') (n:=n) (by simpa using h) (by simpa using h');omega
theorem jna {m:Mode} {ms:List Mode} {x:SV} {xs:List SV} {i j n:Nat}:PosI (m :: ms) (x :: xs) (i+1) j n↔PosI ms xs i j n:=by simp [PosI]
theorem jlg:∀{ms:List Mode} {xs:List SV} {n:Nat},n∈ioNs ms xs↔∃i j,PosI ms xs i j n
 | [],xs,n=>by cases xs<;>simp [ioNs,PosI]
 | m :: ms,[],n=>by cases m<;>simp [ioNs,PosI]
 | m :: ms,x :: xs,n=>by
  have tl:(∃i j,PosI (m :: ms) (x :: xs) i j n)↔(∃j,PosI (m :: ms) (x :: xs) 0 j n)∨∃i j,PosI ms xs i j n:=by
   constructor
   ·rintro ⟨i,j,h⟩
    cases i with
    | zero=>exact .inl ⟨j,h⟩
    | succ i=>exact .inr ⟨i,j,jna.1 h⟩
   ·rintro (⟨j,h⟩ | ⟨i,j,h⟩)
    ·exact ⟨0,j,h⟩
    ·exact ⟨i+1,j,jna.2 h⟩
  rw [tl]
  cases m with
  | io ks =>
   simp only [ioNs,List.mem_append,jlg (ms:=ms),jsd]
   constructor
   ·rintro (⟨j,h⟩ | h)
    ·exact .inl ⟨j,ks,x,rfl,rfl,h⟩
    ·exact .inr h
   ·rintro (⟨j,ks',v,_,h2,h3⟩ | h)
    ·simp at h2;subst h2;exact .inl ⟨j,h3⟩
    ·exact .inr h
  | _ =>
   simp only [ioNs,jlg (ms:=ms)]
   constructor
   ·exact .inr
   ·rintro (⟨j,ks',v,h1,_⟩ | h)
    ·simp at h1
    ·exact h
theorem jgn:∀{ms:List Mode} {xs:List SV} {i j i' j' n:Nat},(ioNs ms xs).Nodup→PosI ms xs i j n→PosI ms xs i' j' n→i=i'∧j=j'
 | [],xs,i,j,i',j',n,_,h,_=>by simp [PosI] at h
 | m :: ms,[],i,j,i',j',n,_,h,_=>by simp [PosI] at h
 | m :: ms,x :: xs,i,j,i',j',n,hd,h,h'=>by
  have hd':(ioNs ms xs).Nodup:=by
   cases m<;>first | exact hd | (simp only [ioNs,List.nodup_append] at hd;exact hd.2.1)
  have no:∀{j i' j':Nat},PosI (m :: ms) (x :: xs) 0 j n→PosI ms xs i' j' n→False:=fun {j i' j'} h1 h2=>by
   obtain ⟨ks,v,e1,e2,e3⟩:=h1
   simp at e1 e2;subst e1;subst e2
   simp only [ioNs,List.nodup_append] at hd
   exact hd.2.2 n (jsd.2 ⟨_,e3⟩) n (jlg.2 ⟨_,_,h2⟩) rfl
  cases i with
  | zero =>
   cases i' with
   | zero =>
    obtain ⟨ks,v,e1,e2,e3⟩:=h
    obtain ⟨ks',v',f1,f2,f3⟩:=h'
    simp at e1 e2 f1 f2;subst e1;subst e2;subst f2
    simp only [ioNs,List.nodup_append] at hd
    exact ⟨rfl,jkr hd.1 e3 f3⟩
   | succ i'=>exact (no h (jna.1 h')).elim
  | succ i =>
   cases i' with
   | zero=>exact (no h' (jna.1 h)).elim
   | succ i'=>obtain ⟨e1,e2⟩:=jgn hd' (jna.1 h) (jna.1 h');exact ⟨by omega,e2⟩
theorem jtk:∀{ns:List Nat},jyk ns=true→ns.Nodup
 | [],_=>by simp
 | n :: ns,h=>by
  simp only [jyk,Bool.and_eq_true,Bool.not_eq_true'] at h
  rw [List.nodup_cons]
  exact ⟨fun hm=>by rw [jpc.2 hm] at h;simp at h,jtk h.2⟩
theorem jif {st:St}:∀{ks:List (Option (Nat × Nat))} {cs:List SV} {ds:List D},takeI st ks cs=some ds→ks.length=ds.length∧cs.length=ds.length∧∀(j:Nat) k c d,ks[j]? = some k→cs[j]? = some c→ds[j]? = some d →
  (k=none∧c=.d d)∨∃e sz n xs,k=some (wk,sz)∧c=.own n∧d=.l xs∧hlk st.h n=some (.row e sz xs)
 | [],[],ds,h=>by simp only [takeI,Option.some.injEq] at h;subst h;exact ⟨rfl,rfl,fun j k c d h1=>by simp at h1⟩
 | [],_ :: _,ds,h=>by simp [takeI] at h
 | none :: ks,c :: cs,ds,h=>by
  cases c with
  | d x =>
   simp only [takeI] at h
   split at h
   ·rename_i xs hx
    cases h
    obtain ⟨h1,h2,h3⟩:=jif hx
    refine ⟨by simp [h1],by simp [h2],fun j k c d e1 e2 e3=>?_⟩
    cases j with
    | zero=>simp at e1 e2 e3;subst e1;subst e2;subst e3;exact .inl ⟨rfl,rfl⟩
    | succ j=>exact h3 j k c d (by simpa using e1) (by simpa using e2) (by simpa using e3)
   ·cases h
  | _=>simp [takeI] at h
 | some (e,sz) :: ks,c :: cs,ds,h=>by
  cases c with
  | own n =>
   simp only [takeI] at h
   split at h
   ·rename_i e' sz' xs hrow
    split at h
    ·rename_i hes
     obtain ⟨rfl,rfl⟩:=hes
     split at h
     ·rename_i ys hx
      cases h
      obtain ⟨h1,h2,h3⟩:=jif hx
      refine ⟨by simp [h1],by simp [h2],fun j k c d e1 e2 e3=>?_⟩
      cases j with
      | zero=>simp at e1 e2 e3;subst e1;subst e2;subst e3;exact .inr ⟨_,_,n,xs,rfl,rfl,rfl,hrow⟩
      | succ j=>exact h3 j k c d (by simpa using e1) (by simpa using e2) (by simpa using e3)
     ·cases h
    ·cases h
   ·cases h
  | _=>simp [takeI] at h
 | none :: ks,[],ds,h=>by simp [takeI] at h
 | some (e,sz) :: ks,[],ds,h=>by simp [takeI] at h
def ioR (R:Rt) (G:Gh) (ns:List Nat) (M:Nat→Prop) (w:World):Rt:=R.sub G (·∈ns) w (fun k=>∃n,(n∈ns∧M n)∧G.live n∧G.φ n k) (fun _ _ _=>False)
def NE (st:St) (n:Nat):Prop:=∃e sz xs,hlk st.h n=some (.row e sz xs)∧xs≠[]
theorem jjr {Rr:Rt} {θ:Nat→Nat→Prop} (hr:∀{d:D} {u:Value},Rep R.w0 R.T d u→Rep Rr.w0 Rr.T d u) (H:Inv C R G st a w) {ks:List (Option (Nat × Nat))} {cs:List SV} {us:List Value} {ds:List D} (hu:jla R G st.h cs us) (hθ:∀(j n:Nat),cs[j]? = some (.own n)→NE st n→∀k,G.φ n k→θ j k) (h:takeI st ks cs=some ds) :
  KC C.P Rr w ks ds us θ:=by
 obtain ⟨h1,h2,h3⟩:=jif h
 refine ⟨h1,by rw [hu.1,h2],fun j k d u e1 e2 e3=>?_⟩
 obtain ⟨c,hc⟩:∃c,cs[j]? = some c:=by
  have:j < ds.length:=(List.getElem?_eq_some_iff.1 e2).1
  exact ⟨cs[j]'(by omega),by simp⟩
 obtain ⟨u',f1,f2,f3⟩:=hu.2 j c hc
 rw [e3] at f1;cases f1
 refine ⟨f2,?_⟩
 rcases h3 j k c d e1 hc e2 with ⟨rfl,rfl⟩ | ⟨e,sz,n,xs,rfl,rfl,rfl,hrow⟩
 ·exact hr f3
 ·obtain ⟨hl,hu',_⟩:=f3
  obtain ⟨b,hb,hbr⟩:=H.B.rel n hl id
  rw [hrow] at hb;cases hb
  refine ⟨xs,rfl,?_,.inl rfl,hbr.2.2.1⟩
  rw [hu']
  exact hbr.1.weak (fun hx k hk=>hθ j n hc ⟨_,_,_,hrow,hx⟩ k hk)
theorem jjy {Rr:Rt} (hr:∀{d:D} {u:Value},Rep R.w0 R.T d u→Rep Rr.w0 Rr.T d u) (H:Inv C R G st a w) {ks:List (Option (Nat × Nat))} {cs:List SV} {us:List Value} {ds:List D} (hu:jla R G st.h cs us) (h:takeI st ks cs=some ds) :
  KC C.P Rr w ks ds us (fun j k=>∃n,cs[j]? = some (.own n)∧G.φ n k):=jjr hr H hu (fun j n h1 _ k h2=>⟨n,h1,h2⟩) h
theorem jcz {ns:List Nat} {M:Nat→Prop} (hM:∀n,NE st n→M n) (H:Inv C R G st a w) {ks:List (Option (Nat × Nat))} {cs:List SV} {us:List Value} {ds:List D} (hu:jla R G st.h cs us) (h:takeI st ks cs=some ds) :
  KC C.P (ioR R G ns M w) w ks ds us (fun j k=>∃n,cs[j]? = some (.own n)∧M n∧G.φ n k):=jjr (fun h=>jwd H.W h) H hu (fun j n h1 h2 k h3=>⟨n,h1,hM n h2,h3⟩) h
theorem jfy {ns:List Nat} {M:Nat→Prop} {x:SV} {u:Value} {d:D} (H:Inv C R G st a w) (hx:CRel R G st.h x u) (h:toD { st with h:=jnc st.h ns } x=some d):Rep w (ioR R G ns M w).T d u:=by
 unfold toD at h
 split at h
 ·cases h;exact jwd H.W hx
 ·cases h;rw [show u=.slice none 0 0 from hx];exact .nil _ _
 ·cases h;exact jwd H.W hx.2
 ·rename_i n
  split at h
  ·rename_i e sz xs hrow
   cases h
   have hrow':hlk (jnc st.h ns) n=some (.row e sz xs):=hrow
   rw [jdq] at hrow'
   split at hrow'
   ·cases hrow'
   ·rename_i hn
    obtain ⟨hl,hu,_⟩:=hx
    obtain ⟨b,hb,hbr⟩:=H.B.rel n hl id
    rw [hrow'] at hb;cases hb
    rw [hu]
    exact hbr.1.rep (fun k hk=>.inr ⟨n,⟨hl,hn⟩,hk⟩)
  ·cases h
 ·rename_i n k
  split at h
  ·rename_i e sz xs hrow
   cases h
   have hrow':hlk (jnc st.h ns) n=some (.row e sz xs):=hrow
   rw [jdq] at hrow'
   split at hrow'
   ·cases hrow'
   ·rename_i hn
    obtain ⟨hl,A,len,cap,hv,hk,rfl⟩:=hx
    obtain ⟨b,hb,hbr⟩:=H.B.rel n hl id
    rw [hrow'] at hb;cases hb
    have hr:Rep w (ioR R G ns M w).T (.l xs) (G.hv n):=hbr.1.rep (fun k hk=>.inr ⟨n,⟨hl,hn⟩,hk⟩)
    obtain ⟨A',cap',hlen⟩:=hbr.1.len
    rw [hv] at hr hlen
    cases hlen
    exact hr.take hk
  ·cases h
 ·cases h
theorem jav {ns:List Nat} {M:Nat→Prop} (H:Inv C R G st a w):∀{xs:List SV} {us:List Value} {ds:List D},jla R G st.h xs us→toDs { st with h:=jnc st.h ns } xs=some ds →
  us.length=ds.length∧∀(j:Nat) d,ds[j]? = some d→∃u,us[j]? = some u∧Rep w (ioR R G ns M w).T d u
 | [],us,ds,hu,h=>by
  simp only [toDs,Option.some.injEq] at h
  subst h
  exact ⟨by simpa using hu.1,fun j d hj=>by simp at hj⟩
 | x :: xs,us,ds,hu,h=>by
  obtain ⟨u,us',rfl,h1,h2,hu'⟩:=hu.tail
  simp only [toDs] at h
  split at h
  ·rename_i d hd
   split at h
   ·rename_i ds' hds
    cases h
    obtain ⟨h3,h4⟩:=jav H hu' hds
    refine ⟨by simp [h3],fun j y hj=>?_⟩
    cases j with
    | zero=>simp at hj;subst hj;exact ⟨u,rfl,jfy H h2 hd⟩
    | succ j=>simpa using h4 j y (by simpa using hj)
   ·cases h
  ·cases h
def thI (G:Gh) (ms:List Mode) (xs:List SV):Nat→Nat→Nat→Prop:=fun i j k=>∃j' n,j=j' + 1∧PosI ms xs i j' n∧G.φ n k
def thM (G:Gh) (M:Nat→Prop) (ms:List Mode) (xs:List SV):Nat→Nat→Nat→Prop:=fun i j k=>∃j' n,j=j' + 1∧PosI ms xs i j' n∧M n∧G.φ n k
theorem jnz {ns:List Nat} {M:Nat→Prop} (hM:∀n,NE st n→M n) (H:Inv C R G st a w) {m:Mode} {x:SV} {v:Value} {d:DV} {θ:Nat→Nat→Prop} (hm:jia [m]=true) (hx:VRel R G st.h x v) (h:jdj st { st with h:=jnc st.h ns } m x=some d) (hθ:∀ks j k,m=.io ks→(θ (j+1) k↔∃n,(cellsOf x)[j]? = some (.own n)∧M n∧G.φ n k)) :
  ArgK C.P (ioR R G ns M w) m d v θ:=by
 cases m with
 | rptr sz=>simp [jia] at hm
 | fnp f sz=>simp [jia] at hm
 | ptr ks=>simp [jia] at hm
 | own ks=>simp [jia] at hm
 | bor =>
  by_cases hag:∃cs,x=.agg cs
  ·obtain ⟨cs,rfl⟩:=hag
   simp only [jdj,argOf] at h
   rw [Option.map_eq_some_iff] at h
   obtain ⟨ds,h1,rfl⟩:=h
   obtain ⟨us,h2,h3⟩:=jvd hx
   obtain ⟨h4,h5⟩:=jav (ns:=ns) H h3 h1
   exact ⟨us,h2,h4,h5⟩
  ·have hna:∀cs,x≠.agg cs:=fun cs e=>hag ⟨cs,e⟩
   have h':(toD { st with h:=jnc st.h ns } x).map DV.one=some d:=by
    cases x<;>first | exact absurd rfl (hna _) | exact h
   rw [Option.map_eq_some_iff] at h'
   obtain ⟨d',h1,rfl⟩:=h'
   have hc:VRel R G st.h x v=CRel R G st.h x v:=by
    cases x<;>first | rfl | exact absurd rfl (hna _) | (simp [toD] at h1)
   rw [hc] at hx
   exact jfy H hx h1
 | io ks =>
  have go:∀{cs:List SV} {us:List Value} {ds:List D},cellsOf x=cs→jla R G st.h cs us→takeI st ks cs=some ds→KC C.P (ioR R G ns M w) w ks ds us (fun j=>θ (j+1)):=fun {cs us ds} e hu ht=>by
   have:=jcz (ns:=ns) hM H hu ht
   have e2:(fun j=>θ (j+1))=fun j k=>∃n,cs[j]? = some (.own n)∧M n∧G.φ n k:=by
    funext j k;rw [←e];exact propext (hθ ks j k rfl)
   rw [e2];exact this
  by_cases hag:∃cs,x=.agg cs
  ·obtain ⟨cs,rfl⟩:=hag
   simp only [jdj] at h
   split at h
   ·rename_i xs ht
    cases h
    obtain ⟨us,h2,h3⟩:=jvd hx
    exact ⟨us,h2,go rfl h3 ht⟩
   ·cases h
  ·have hna:∀cs,x≠.agg cs:=fun cs e=>hag ⟨cs,e⟩
   have h':(match takeI st ks [x] with | some [y]=>some (DV.one y) | _=>none)=some d:=by
    cases x<;>first | exact absurd rfl (hna _) | exact h
   split at h'
   ·rename_i y ht
    cases h'
    obtain ⟨_,_,hp⟩:=jif ht
    have hok:okSV x=true:=by
     cases x<;>first | rfl | skip
     all_goals
      cases ks with
      | nil=>simp [takeI] at ht
      | cons k ks=>cases k<;>simp [takeI] at ht
    obtain ⟨o1,o2⟩:=jzm hx hok hna
    obtain ⟨c1,c2⟩:=jsb hx hok
    refine ⟨go o2 ⟨rfl,fun j c hj=>?_⟩ ht,o1⟩
    obtain ⟨u,k1,k2,k3⟩:=c2 j c (by rw [o2];exact hj)
    rw [jih o1] at k1
    exact ⟨u,by simpa using k1,k2,k3⟩
   ·cases h'
theorem jhr {ns:List Nat} {M:Nat→Prop} (hM:∀n,NE st n→M n) (H:Inv C R G st a w):∀{ms:List Mode} {xs:List SV} {vs:List Value} {ds:List DV} {Θ:Nat→Nat→Nat→Prop},jia ms=true→jca R G st.h xs vs→jhc st { st with h:=jnc st.h ns } ms xs=some ds→(∀i j k,Θ i j k↔thM G M ms xs i j k)→jwf C.P (ioR R G ns M w) ms ds vs Θ
 | [],[],vs,ds,Θ,_,hv,h,_=>by
  simp only [jhc,Option.some.injEq] at h
  subst h
  cases vs with
  | nil=>trivial
  | cons v vs=>exact absurd hv.1 (by simp)
 | m :: ms,x :: xs,vs,ds,Θ,hm,hv,h,hΘ=>by
  obtain ⟨u,vs',rfl,h1,hv'⟩:=hv.tail
  simp only [jhc] at h
  split at h
  ·rename_i d ds' hd hds
   cases h
   have hm1:jia [m]=true∧jia ms=true:=by cases m<;>simp_all [jia]
   refine ⟨jnz hM H hm1.1 h1 hd (fun ks j k e=>?_),jhr hM H hm1.2 hv' hds (fun i j k=>?_)⟩
   ·rw [hΘ]
    constructor
    ·rintro ⟨j',n,e1,⟨ks',v',p1,p2,p3⟩,e2⟩
     simp at p2;subst p2
     have:j=j':=by omega
     subst this
     exact ⟨n,p3,e2⟩
    ·rintro ⟨n,e1,e2⟩
     exact ⟨j,n,rfl,⟨ks,x,by simp [e],rfl,e1⟩,e2⟩
   ·rw [hΘ]
    simp only [thM,jna]
  ·cases h
 | [],_ :: _,vs,ds,Θ,_,hv,h,_=>by simp [jhc] at h
 | m :: _,[],vs,ds,Θ,_,hv,h,_=>by simp [jhc] at h
theorem jxw {ks:List (Option (Nat × Nat))}:∀{cs:List SV} {os:List D} {h h2:List (Nat × Blk)},(jaa cs).Nodup→jeb h ks cs os=some h2 →
  (∀n,n ∉ jaa cs→hlk h2 n=hlk h n)∧∀(j n:Nat),cs[j]? = some (.own n)→∃e sz ys ys0,ks[j]? = some (some (wk,sz))∧os[j]? = some (.l ys)∧hlk h n=some (.row e sz ys0)∧hlk h2 n=some (.row e sz ys):=by
 induction ks with
 | nil =>
  intro cs os h h2 hd hp
  cases cs<;>cases os<;>simp [jeb] at hp
  subst hp
  exact ⟨fun _ _=>rfl,fun j n hj=>by simp at hj⟩
 | cons k ks ih =>
  intro cs os h h2 hd hp
  cases cs with
  | nil=>cases k<;>cases os<;>simp [jeb] at hp
  | cons c cs =>
   cases os with
   | nil=>cases k<;>cases c<;>simp [jeb] at hp
   | cons o os =>
    have hd2:(jaa cs).Nodup:=by simp only [jaa,List.nodup_append] at hd;exact hd.2.1
    cases k with
    | none =>
     cases c with
     | d x =>
      simp only [jeb] at hp
      obtain ⟨i1,i2⟩:=ih hd2 hp
      refine ⟨fun n hn=>i1 n (by simpa [jaa,ownC] using hn),fun j n hj=>?_⟩
      cases j with
      | zero=>simp at hj
      | succ j=>simpa using i2 j n (by simpa using hj)
     | _=>simp [jeb] at hp
    | some p =>
     obtain ⟨e,sz⟩:=p
     cases c with
     | own m =>
      cases o with
      | l ys =>
       simp only [jeb] at hp
       split at hp
       ·rename_i e' sz' ys0 hrow
        split at hp
        ·rename_i hes
         obtain ⟨rfl,rfl⟩:=hes
         obtain ⟨i1,i2⟩:=ih hd2 hp
         have hmn:m ∉ jaa cs:=fun hm=>by simp only [jaa,List.nodup_append] at hd;exact hd.2.2 m (by simp [ownC]) m hm rfl
         refine ⟨fun n hn=>?_,fun j n hj=>?_⟩
         ·simp only [jaa,ownC,List.mem_append,List.mem_singleton,not_or] at hn
          rw [i1 n hn.2,jga,if_neg hn.1]
         ·cases j with
          | zero =>
           simp at hj;subst hj
           exact ⟨_,_,ys,ys0,rfl,rfl,hrow,by rw [i1 _ hmn,jga,if_pos rfl]⟩
          | succ j =>
           obtain ⟨e2,sz2,zs,zs0,j1,j2,j3,j4⟩:=i2 j n (by simpa using hj)
           have hne:n≠m:=fun e=>hmn (by rw [←e];exact jsd.2 ⟨j,by simpa using hj⟩)
           rw [jga,if_neg hne] at j3
           exact ⟨e2,sz2,zs,zs0,by simpa using j1,by simpa using j2,j3,j4⟩
        ·cases hp
       ·cases hp
      | _=>simp [jeb] at hp
     | _=>cases o<;>simp [jeb] at hp
theorem jri {P:Program} {R':Rt} {h0:List (Nat × Blk)}:∀{ms:List Mode} {xs:List SV} {vs:List Value} {os:List (List D)} {h h2:List (Nat × Blk)} {Ω:Nat→Nat→Nat→Prop},jia ms=true→(ioNs ms xs).Nodup→jca R G h0 xs vs→(∀i j n,PosI ms xs i j n→∀v,xs[i]? = some v→okSV v=true)→jra h ms xs os=some h2→jyc P R' w' ms vs os Ω →
  (∀n,n ∉ ioNs ms xs→hlk h2 n=hlk h n)∧∀(i j n:Nat),PosI ms xs i j n→∃e sz ys ys0,hlk h n=some (.row e sz ys0)∧hlk h2 n=some (.row e sz ys)∧RowX w' wk sz (Ω i (j+1)) ys (G.hv n)
 | [],[],vs,os,h,h2,Ω,_,_,_,_,hp,_=>by
  cases os<;>simp [jra] at hp
  subst hp
  exact ⟨fun _ _=>rfl,fun i j n hj=>by simp [PosI] at hj⟩
 | [],_ :: _,vs,os,h,h2,Ω,_,_,_,_,hp,_=>by cases os<;>simp [jra] at hp
 | m :: _,[],vs,os,h,h2,Ω,_,_,_,_,hp,_=>by cases m<;>cases os<;>simp [jra] at hp
 | m :: ms,x :: xs,vs,os,h,h2,Ω,hmd,hd,hv,hok,hp,hO=>by
  obtain ⟨u,vs',rfl,h1,hv'⟩:=hv.tail
  have hmd':jia ms=true:=by cases m<;>simp_all [jia]
  have hok':∀i j n,PosI ms xs i j n→∀v,xs[i]? = some v→okSV v=true:=fun i j n hp v hv=>hok (i+1) j n (jna.2 hp) v (by simpa using hv)
  by_cases hio:∃ks,m=.io ks
  ·obtain ⟨ks,rfl⟩:=hio
   cases os with
   | nil=>simp [jra] at hp
   | cons o os =>
    simp only [jra] at hp
    simp only [ioNs] at hd
    split at hp
    ·rename_i h1' hp1
     obtain ⟨hO1,hO2⟩:=hO
     have hd0:=hd
     simp only [List.nodup_append] at hd
     obtain ⟨p1,p2⟩:=jxw hd.1 hp1
     obtain ⟨q1,q2⟩:=jri hmd' hd.2.1 hv' hok' hp hO2
     refine ⟨fun n hn=>?_,fun i j n hpos=>?_⟩
     ·simp only [ioNs,List.mem_append,not_or] at hn
      rw [q1 n hn.2,p1 n hn.1]
     ·cases i with
      | zero =>
       obtain ⟨ks',v',e1,e2,e3⟩:=hpos
       simp at e1 e2;subst e1;subst e2
       obtain ⟨e,sz,ys,ys0,k1,k2,k3,k4⟩:=p2 j n e3
       have hnn:n ∉ ioNs ms xs:=fun hm=>hd.2.2 n (jsd.2 ⟨j,e3⟩) n hm rfl
       refine ⟨e,sz,ys,ys0,k3,by rw [q1 n hnn];exact k4,?_⟩
       obtain ⟨c1,c2⟩:=jsb h1 (hok 0 j n ⟨_,_,rfl,rfl,e3⟩ _ rfl)
       obtain ⟨y,y1,y2,y3⟩:=c2 j _ e3
       obtain ⟨_,hR⟩:=hO1.2.2 j _ _ y k1 k2 (by simpa using y1)
       obtain ⟨xs',f1,f2,_⟩:=hR
       cases f1
       rw [←y3.2.1];exact f2
      | succ i =>
       obtain ⟨e,sz,ys,ys0,k1,k2,k3⟩:=q2 i j n (jna.1 hpos)
       have hnn:n ∉ jaa (cellsOf x):=fun hm=>hd.2.2 n hm n (jlg.2 ⟨_,_,jna.1 hpos⟩) rfl
       exact ⟨e,sz,ys,ys0,by rw [←p1 n hnn];exact k1,k2,k3⟩
    ·cases hp
  ·by_cases hpt:∃ks,m=.ptr ks
   ·obtain ⟨ks,rfl⟩:=hpt
    simp [jia] at hmd
   ·have hp':jra h ms xs os=some h2:=by cases m<;>first | exact absurd ⟨_,rfl⟩ hio | exact absurd ⟨_,rfl⟩ hpt | (simpa [jra] using hp)
    have hd':(ioNs ms xs).Nodup:=by cases m<;>first | exact absurd ⟨_,rfl⟩ hio | exact hd
    have hO':jyc P R' w' ms vs' os (fun i=>Ω (i+1)):=by cases m<;>first | exact absurd ⟨_,rfl⟩ hio | exact absurd ⟨_,rfl⟩ hpt | (cases os<;>exact hO)
    obtain ⟨q1,q2⟩:=jri hmd' hd' hv' hok' hp' hO'
    have e1:ioNs (m :: ms) (x :: xs)=ioNs ms xs:=by cases m<;>first | exact absurd ⟨_,rfl⟩ hio | rfl
    refine ⟨fun n hn=>q1 n (by rw [←e1];exact hn),fun i j n hpos=>?_⟩
    cases i with
    | zero=>obtain ⟨ks',v',f1,_⟩:=hpos;simp at f1;exact absurd ⟨_,f1⟩ hio
    | succ i=>exact q2 i j n (jna.1 hpos)
theorem jqp:∀{st stb:St} {ms:List Mode} {xs:List SV} {ds:List DV},jhc st stb ms xs=some ds→∀i j n,PosI ms xs i j n→∀v,xs[i]? = some v→okSV v=true
 | st,stb,[],xs,ds,h,i,j,n,hp,v,hv=>by simp [PosI] at hp
 | st,stb,m :: ms,[],ds,h,i,j,n,hp,v,hv=>by simp [PosI] at hp
 | st,stb,m :: ms,x :: xs,ds,h,i,j,n,hp,v,hv=>by
  cases i with
  | zero =>
   obtain ⟨ks,v',e1,e2,e3⟩:=hp
   simp at hv;subst hv
   simp at e2;subst e2
   cases x<;>first | rfl | (cases j<;>simp [cellsOf] at e3)
  | succ i =>
   simp only [jhc] at h
   split at h
   ·rename_i d ds' _ hds
    exact jqp hds i j n (jna.1 hp) v (by simpa using hv)
   ·cases h
theorem jxr {f:Nat} {args:Array Operand} {ts:Array TypeId} {xs:List SV} (hC:CtxOk C) (H:Inv C R G st a w) (ho:o.op=.call { callee:=.value (.func f),args,argTypes:=ts }) (hvals:jca R G st.h xs (args.toList.map a.eval)) (h:jdf C st f xs=some (true,v,st1)):jfd C R G st a w o v st1:=by
 intro K Q hK
 unfold jdf at h
 split at h
 ·rename_i hck
  simp only [Bool.and_eq_true] at hck
  have hnd:=jtk hck.1
  split at h
  ·rename_i ds hargs
   split at h
   rename_i ok rs outs hF'
   split at h
   ·rename_i h2 zs hput hr
    simp only [Option.some.injEq,Prod.mk.injEq] at h
    obtain ⟨rfl,rfl,rfl⟩:=h
    have hF:opt (C.F f ds)=some (rs,outs):=by rw [hF'];rfl
    obtain ⟨hsig1,hsig2⟩:=hC.sig _ _ _ hF
    let ms:=(C.sig f).ms
    let N:=ioNs ms xs
    let M:Nat→Prop:=NE st
    have hN:∀n,n∈N↔∃i j,PosI ms xs i j n:=fun n=>jlg
    have hlv:∀i j n,PosI ms xs i j n→G.live n:=fun i j n hp=>by
     have hok:=jqp hargs i j n hp
     obtain ⟨ks,v',e1,e2,e3⟩:=hp
     obtain ⟨u,_,hu⟩:=hvals.2 i v' e2
     obtain ⟨_,c2⟩:=jsb hu (hok v' e2)
     obtain ⟨y,_,_,hy⟩:=c2 j _ e3
     exact hy.1
    have mineN:∀{k:Nat},(∃n,(n∈N∧M n)∧G.live n∧G.φ n k)→k < w.heap.size∧(R.L k∨R.w0.heap.size≤k):=fun ⟨n,_,h1,h2⟩=>H.B.mine n h1 id _ h2
    have notL:∀{n k:Nat},G.live n→¬ (n∈N∧M n)→G.φ n k→¬ ∃n,(n∈N∧M n)∧G.live n∧G.φ n k:=fun h1 h2 h3 ⟨m,m1,m2,m3⟩=>H.B.disj _ m h1 id m2 id (fun e=>h2 (e ▸ m1)) _ h3 m3
    have hP:Pre C.P (C.sig f) (ioR R G N M w) ds (args.toList.map a.eval) (thM G M ms xs):={
     W:={
      os:=rfl,tape:=rfl,output:=rfl,size:=Nat.le_refl _
      T:=fun k hk=>by
       rcases hk with hk | ⟨n,⟨hn,hS⟩,hk⟩
       ·refine ⟨Nat.lt_of_lt_of_le (H.W.T k hk).1 H.W.size,fun hL=>?_⟩
        rcases (mineN hL).2 with h2 | h2
        ·exact (H.W.T k hk).2 h2
        ·have:=(H.W.T k hk).1;omega
       ·exact ⟨(H.B.mine n hn id k hk).1,notL hn (fun h=>hS h.1) hk⟩
      old:=fun _ _ _=>rfl
      out:=fun k lo hi h=>h.elim }
     args:=jhr (fun _ h=>h) H hck.2 hvals hargs (fun _ _ _=>Iff.rfl)
     mine:=fun i j k ⟨j',n,_,hp,hm,hφ⟩=>⟨(H.B.mine n (hlv _ _ _ hp) id k hφ).1,n,⟨(hN n).2 ⟨_,_,hp⟩,hm⟩,hlv _ _ _ hp,hφ⟩
     lb:=fun i j k _ lo hi h=>h.elim
     apart:=fun i j i' j' k ⟨q,n,e1,hp,_,hφ⟩ ⟨q',n',e1',hp',_,hφ'⟩=>by
      have:n=n':=Classical.byContradiction fun hne=>H.B.disj n n' (hlv _ _ _ hp) id (hlv _ _ _ hp') id hne k hφ hφ'
      subst this
      obtain ⟨e2,e3⟩:=jgn hnd hp hp'
      exact ⟨e2,by omega⟩
     noLB:=fun _ _ _ _ h=>h.elim }
    have hc:=hC.spec f _ ds _ _ rs outs hF rfl hP
    unfold Oper.wp
    rw [jae (hC.fn _ _ _ hF) ho]
    show Calls C.P f _ w _
    have harr:(args.map a.eval)=(args.toList.map a.eval).toArray:=by rw [←Array.toList_map]
    rw [harr]
    refine hc.mono fun e w' he=>?_
    obtain ⟨rv,Ξ,Ω,rfl,p⟩:=he
    have hsz:w.heap.size≤w'.heap.size:=p.W.size
    have hold:∀k,k < w.heap.size→(¬ ∃n,(n∈N∧M n)∧G.live n∧G.φ n k)→w'.heap[k]? = w.heap[k]?:=fun k h1 h2=>p.W.old k h1 h2
    obtain ⟨b1,b2⟩:=jri (w':=w') (G:=G) hck.2 hnd hvals (jqp hargs) hput p.outs
    have rowN:∀{n k lo hi:Nat},n∈N→G.live n→G.φ n k→¬ R.LB k lo hi:=fun {n k lo hi} h1 h2 h3=>by
     obtain ⟨i,j,hp⟩:=(hN n).1 h1
     obtain ⟨e,sz,ys,ys0,k1,_,_⟩:=b2 i j n hp
     obtain ⟨b,hb,hbr⟩:=H.B.rel n h2 id
     rw [k1] at hb;cases hb
     exact hbr.2.2.2 k lo hi h3
    have hW:WInv R w':={
     os:=p.W.os.trans H.W.os,tape:=p.W.tape.trans H.W.tape,output:=p.W.output.trans H.W.output,size:=Nat.le_trans H.W.size hsz,T:=H.W.T
     old:=fun k hk hL=>(hold k (Nat.lt_of_lt_of_le hk H.W.size) (fun h=>by rcases (mineN h).2 with h2 | h2;exact hL h2;omega)).trans (H.W.old k hk hL)
     out:=fun k lo hi hlb=>by
      obtain ⟨c,c0,e,fz,q1,q2,q3,q4⟩:=H.W.out k lo hi hlb
      exact ⟨c,c0,e,fz,q1,(hold k (Array.getElem?_eq_some_iff.1 q2).1 (fun ⟨n,h1,h2,h3⟩=>rowN h1.1 h2 h3 hlb)).trans q2,q3,q4⟩ }
    let G2:Gh:={ G with φ:=fun n k=>((n∈N∧M n)∧∃i j,PosI ms xs i j n∧Ω i (j+1) k)∨(¬ (n∈N∧M n)∧G.φ n k) }
    have φo:∀n,¬ (n∈N∧M n)→G2.φ n=G.φ n:=fun n hn=>by funext k;exact propext ⟨fun h=>by rcases h with ⟨h,_⟩ | h;exact absurd h hn;exact h.2,fun h=>.inr ⟨hn,h⟩⟩
    have φN:∀{n k:Nat},(n∈N∧M n)→G2.φ n k→∃i j,PosI ms xs i j n∧Ω i (j+1) k:=fun hn h=>by rcases h with ⟨_,h⟩ | ⟨h,_⟩;exact h;exact absurd hn h
    have hSame:∀n,Same G st.h G2 h2 n:=fun n hl=>⟨hl,rfl,rfl,fun e sz ys hx=>by
     by_cases hn:n∈N
     ·obtain ⟨i,j,hp⟩:=(hN n).1 hn
      obtain ⟨e',sz',zs,zs0,k1,k2,_⟩:=b2 i j n hp
      rw [k1] at hx;cases hx
      exact ⟨zs,k2⟩
     ·exact ⟨ys,by rw [b1 n hn];exact hx⟩⟩
    have hI:Inv C R G2 { st with h:=h2 } a w':=by
     refine ⟨hW,⟨fun n hl _=>?_,fun n m hn _ hm _ hnm k hk1 hk2=>?_,fun n hl _ k hk=>?_,fun n b hf=>?_⟩,fun _ _ _=>id,fun t=>jib hSame (H.slots t),H.l,H.m⟩
     ·by_cases hn:n∈N
      ·obtain ⟨i,j,hp⟩:=(hN n).1 hn
       obtain ⟨e,sz,ys,ys0,k1,k2,k3⟩:=b2 i j n hp
       obtain ⟨b,hb,hbr⟩:=H.B.rel n hl id
       rw [k1] at hb;cases hb
       have hlen:ys.length=ys0.length:=by
        obtain ⟨A1,c1,e1⟩:=hbr.1.len
        obtain ⟨A2,c2,e2⟩:=k3.len
        rw [e1] at e2
        simp only [Value.slice.injEq] at e2
        exact e2.2.1.symm
       by_cases hne:ys0=[]
       ·have hM:¬ (n∈N∧M n):=fun ⟨_,_,_,_,h5,h6⟩=>by rw [k1] at h5;cases h5;exact h6 hne
        have hys:ys=[]:=List.eq_nil_of_length_eq_zero (by rw [hlen,hne];rfl)
        subst hys
        subst hne
        exact ⟨.row e sz [],k2,by rw [φo n hM];exact hbr.1.mono (fun _ h=>h) (fun k hk=>hold k (H.B.mine n hl id k hk).1 (notL hl hM hk)),hbr.2.1,hbr.2.2.1,fun k lo hi hφ=>by rw [φo n hM] at hφ;exact hbr.2.2.2 k lo hi hφ⟩
       have hM:n∈N∧M n:=⟨hn,_,_,_,k1,hne⟩
       refine ⟨.row e sz ys,k2,.inl ((k3.some (fun h=>hne (List.eq_nil_of_length_eq_zero (by rw [←hlen,h];rfl)))).mono (fun k hk=>.inl ⟨hM,i,j,hp,hk⟩) (fun _ _=>rfl)),hbr.2.1,hbr.2.2.1,fun k lo hi hφ hlb=>?_⟩
       obtain ⟨i',j',_,hΩ⟩:=φN hM hφ
       rcases (p.mineO _ _ _ hΩ).2 with ⟨m,m1,m2,m3⟩ | h4
       ·exact rowN m1.1 m2 m3 hlb
       ·have h5:=jjg H.W hlb
        have h6:=H.W.size
        have h7:w.heap.size≤k:=h4
        omega
      ·obtain ⟨b,hb,hbr⟩:=H.B.rel n hl id
       exact ⟨b,by rw [show ({ st with h:=h2 }:St).h=h2 from rfl,b1 n hn];exact hb,jhb hSame (φo n (fun h=>hn h.1)) rfl rfl (jge (fun k hk=>hold k (H.B.mine n hl id k hk).1 (notL hl (fun h=>hn h.1) hk)) hbr)⟩
     ·have cross:∀{n m:Nat},(n∈N∧M n)→¬ (m∈N∧M m)→G.live m→G2.φ n k→G2.φ m k→False:=fun {n m} h1 h2 h3 h4 h5=>by
       rw [φo m h2] at h5
       obtain ⟨i',j',_,hΩ⟩:=φN h1 h4
       rcases (p.mineO _ _ _ hΩ).2 with hL | h6
       ·exact notL h3 h2 h5 hL
       ·have h7:w.heap.size≤k:=h6
        have:=(H.B.mine m h3 id k h5).1
        omega
      by_cases h1:n∈N∧M n
      ·by_cases h2:m∈N∧M m
       ·obtain ⟨i,j,hp,hΩ⟩:=φN h1 hk1
        obtain ⟨i',j',hp',hΩ'⟩:=φN h2 hk2
        obtain ⟨e1,e2⟩:=p.apartO _ _ _ _ _ hΩ hΩ'
        have e3:j=j':=by omega
        subst e1;subst e3
        obtain ⟨_,_,a1,a2,a3⟩:=hp
        obtain ⟨_,_,c1,c2,c3⟩:=hp'
        rw [a2] at c2;cases c2
        rw [a3] at c3;cases c3
        exact hnm rfl
       ·exact cross h1 h2 hm hk1 hk2
      ·by_cases h2:m∈N∧M m
       ·exact cross h2 h1 hn hk2 hk1
       ·rw [φo n h1] at hk1;rw [φo m h2] at hk2
        exact H.B.disj n m hn id hm id hnm k hk1 hk2
     ·by_cases hn:n∈N∧M n
      ·obtain ⟨i,j,_,hΩ⟩:=φN hn hk
       obtain ⟨h1,h2⟩:=p.mineO _ _ _ hΩ
       refine ⟨h1,?_⟩
       rcases h2 with h2 | h2
       ·exact (mineN h2).2
       ·exact .inr (Nat.le_trans H.W.size h2)
      ·rw [φo n hn] at hk
       exact ⟨Nat.lt_of_lt_of_le (H.B.mine n hl id k hk).1 hsz,(H.B.mine n hl id k hk).2⟩
     ·obtain ⟨h1,h2',h3⟩:=H.B.fix n b hf
      refine ⟨h1,h2',fun hS=>?_⟩
      obtain ⟨cs,hcs⟩:=h3 hS
      have hn:n ∉ N:=fun hn=>by
       obtain ⟨i,j,hp⟩:=(hN n).1 hn
       obtain ⟨e,sz,ys,ys0,k1,_,_⟩:=b2 i j n hp
       rw [k1] at hcs;cases hcs
      exact ⟨cs,by rw [show ({ st with h:=h2 }:St).h=h2 from rfl,b1 n hn];exact hcs⟩
    have hres:=p.res
    rw [hr] at hres
    exact hK _ _ _ hI (jec (jng R G2 _ hres) (jaf _)) (fun m cs ⟨u1,u2,u3⟩=>⟨u1,by
     have hn:m ∉ N:=fun hn=>by
      obtain ⟨i,j,hp⟩:=(hN m).1 hn
      exact u1 (hlv i j m hp)
     show hlk h2 m=some cs
     rw [b1 m hn];exact u2,u3⟩)
   ·cases h
  ·cases h
 ·cases h
theorem jhp {st st':St} (hh:st'.h=st.h):∀(ks:List (Option (Nat × Nat))) (vs:List SV),takeI st' ks vs=takeI st ks vs
 | [],[]=>rfl
 | [],_ :: _=>rfl
 | none :: ks,[]=>rfl
 | some (e,sz) :: ks,[]=>rfl
 | none :: ks,v :: vs=>by cases v<;>simp only [takeI,jhp hh ks vs]
 | some (e,sz) :: ks,v :: vs=>by cases v<;>simp only [takeI,jhp hh ks vs,hh]
theorem jwx {st st':St} (hh:st'.h=st.h) (x:SV):toD st' x=toD st x:=by cases x<;>simp only [toD,hh]
theorem jru {st st':St} (hh:st'.h=st.h):∀(xs:List SV),toDs st' xs=toDs st xs
 | []=>rfl
 | x :: xs=>by simp only [toDs,jwx hh,jru hh xs]
theorem jxy {st st':St} (hh:st'.h=st.h) (m:Mode) (x:SV):argOf st' m x=argOf st m x:=by
 cases m<;>cases x<;>simp only [argOf,jwx hh,jru hh,hh]
theorem ioArg_h {st st' sb sb':St} (hh:st'.h=st.h) (hb:sb'.h=sb.h) (m:Mode) (x:SV):jdj st' sb' m x=jdj st sb m x:=by
 cases m<;>cases x<;>simp only [jdj,jhp hh,jxy hb]
theorem jmt {st st' sb sb':St} (hh:st'.h=st.h) (hb:sb'.h=sb.h):∀(ms:List Mode) (xs:List SV),jhc st' sb' ms xs=jhc st sb ms xs
 | [],[]=>rfl
 | [],_ :: _=>rfl
 | m :: ms,[]=>rfl
 | m :: ms,x :: xs=>by simp only [jhc,ioArg_h hh hb,jmt hh hb ms xs]
theorem jsj {st st1:St} {f:Nat} {xs:List SV} {b:Bool} (h:jdf C st f xs=some (b,v,st1)):∃h2 outs,st1={ st with h:=h2 }∧jra st.h (C.sig f).ms xs outs=some h2:=by
 unfold jdf at h
 split at h
 ·split at h
  ·split at h
   split at h
   ·rename_i h2 _ hp _
    cases h
    exact ⟨h2,_,rfl,hp⟩
   ·cases h
  ·cases h
 ·cases h
theorem jzy {st st':St} {f:Nat} {xs:List SV} {b:Bool} {h2:List (Nat × Blk)} (hh:st'.h=st.h) (h:jdf C st f xs=some (b,v,{ st with h:=h2 })):jdf C st' f xs=some (b,v,{ st' with h:=h2 }):=by
 unfold jdf at h ⊢
 rw [jmt (st:=st) (sb:={ st with h:=jnc st.h (ioNs (C.sig f).ms xs) }) hh (by show jnc st'.h _=jnc st.h _;rw [hh]),hh]
 split at h
 ·rename_i hck
  rw [if_pos hck]
  split at h
  ·rename_i ds hds
   rcases hq:C.F f ds with ⟨ok,rs,outs⟩
   rw [hq] at h
   dsimp only at h ⊢
   split at h
   ·rename_i h2' zs hp hr
    simp only [Option.some.injEq,Prod.mk.injEq] at h
    obtain ⟨rfl,rfl,e⟩:=h
    have:h2'=h2:=congrArg St.h e
    subst this
    simp only [hp,hr]
   ·cases h
  ·cases h
 ·cases h
theorem jcy:∀{ks:List (Option (Nat × Nat))} {cs:List SV} {os:List D} {h h2:List (Nat × Blk)},jeb h ks cs os=some h2→∀n,n ∉ jaa cs→hlk h2 n=hlk h n:=by
 intro ks
 induction ks with
 | nil =>
  intro cs os h h2 hp n _
  cases cs<;>cases os<;>simp [jeb] at hp
  subst hp;rfl
 | cons k ks ih =>
  intro cs os h h2 hp n hn
  cases cs with
  | nil=>cases k<;>cases os<;>simp [jeb] at hp
  | cons c cs =>
   cases os with
   | nil=>cases k<;>cases c<;>simp [jeb] at hp
   | cons o os =>
    cases k with
    | none =>
     cases c with
     | d x=>simp only [jeb] at hp;exact ih hp n (by simpa [jaa,ownC] using hn)
     | _=>simp [jeb] at hp
    | some p =>
     obtain ⟨e,sz⟩:=p
     cases c with
     | own m =>
      cases o with
      | l ys =>
       simp only [jaa,ownC,List.mem_append,List.mem_singleton,not_or] at hn
       simp only [jeb] at hp
       split at hp
       ·split at hp
        ·rw [ih hp n hn.2,jga,if_neg hn.1]
        ·cases hp
       ·cases hp
      | _=>simp [jeb] at hp
     | _=>cases o<;>simp [jeb] at hp
theorem jyi:∀{ms:List Mode} {xs:List SV} {os:List (List D)} {h h2:List (Nat × Blk)},jra h ms xs os=some h2→∀n,n ∉ ioNs ms xs→hlk h2 n=hlk h n
 | [],[],os,h,h2,hp,n,_=>by cases os<;>simp [jra] at hp;subst hp;rfl
 | [],_ :: _,os,h,h2,hp,n,_=>by cases os<;>simp [jra] at hp
 | m :: _,[],os,h,h2,hp,n,_=>by cases m<;>cases os<;>simp [jra] at hp
 | m :: ms,x :: xs,os,h,h2,hp,n,hn=>by
  by_cases hio:∃ks,m=.io ks
  ·obtain ⟨ks,rfl⟩:=hio
   cases os with
   | nil=>simp [jra] at hp
   | cons o os =>
    simp only [ioNs,List.mem_append,not_or] at hn
    simp only [jra] at hp
    split at hp
    ·rename_i h1 hp1
     rw [jyi hp n hn.2,jcy hp1 n hn.1]
    ·cases hp
  ·have hp':jra h ms xs os=some h2:=by cases m<;>first | exact absurd ⟨_,rfl⟩ hio | (simpa [jra] using hp)
   have e1:ioNs (m :: ms) (x :: xs)=ioNs ms xs:=by cases m<;>first | exact absurd ⟨_,rfl⟩ hio | rfl
   exact jyi hp' n (by rw [←e1];exact hn)
end Go.Den
