/- The evaluator of Go code over plain data, and its soundness: part 6 of 9. -/
import Derived.Test.YtbmgnecedmcneaaGreatDm5
import Derived.Orders
set_option linter.unusedVariables false
set_option linter.unusedSimpArgs false
/- What a heavy operation does not touch; what a light one looks at. -/
namespace Go.Den
open Go
variable {C:Ctx} {st st' st1 st2:St} {p:Path} {op:Op} {v:SV} {hs bs:List Nat}

def jjc:List Nat→Blk→Blk | [],b=>b | n :: ns,b=>jjc ns (killB n b)
theorem jnj:∀(a c:List Nat) (b:Blk),jjc (a++c) b=jjc c (jjc a b)
 | [],c,b=>rfl
 | n :: a,c,b=>by simp only [List.cons_append,jjc,jnj a c]
def Frm (hs bs:List Nat) (st st1:St):Prop:=∃ns,(∀n∈ns,n∈hs)∧st1.m=jva ns st.m∧st1.l=jpa ns st.l∧∀n b,hlk st.h n=some b→n ∉ hs→n ∉ bs→hlk st1.h n=some (jjc ns b)
theorem Frm.refl (hs bs:List Nat) (st:St):Frm hs bs st st:=⟨[],fun n h=>by simp at h,rfl,rfl,fun n b h _ _=>h⟩
theorem Frm.trans (A:Frm hs bs st st1) (B:Frm hs bs st1 st2):Frm hs bs st st2:=by
 obtain ⟨a,a1,a2,a3,a4⟩:=A
 obtain ⟨b,b1,b2,b3,b4⟩:=B
 refine ⟨a++b,fun n h=>by rcases List.mem_append.1 h with h | h;exact a1 n h;exact b1 n h,by rw [jgd,←a2,b2],by rw [jdd,←a3,b3],fun n x h hn hm=>?_⟩
 rw [jnj]
 exact b4 n _ (a4 n x h hn hm) hn hm
theorem jnr {n k:Nat} {hs:List Nat} (hk:k ∉ hs) (hn:n∈hs):¬ k=n:=fun e=>hk (by rw [e];exact hn)
theorem jgp {n:Nat} (hn:n∈hs):Frm hs bs st { kill st n with h:=hdel (killH n st.h) n }:=⟨[n],fun k hk=>by simp at hk;subst hk;exact hn,rfl,rfl,fun k b h hk _=>by
 show hlk (hdel (killH n st.h) n) k=_
 rw [jwa,if_neg (jnr hk hn),jld,h];rfl⟩
theorem jlu {n:Nat} (hn:n∈hs) (x:Blk):Frm hs bs st { kill st n with h:=hset (killH n st.h) n x }:=⟨[n],fun k hk=>by simp at hk;subst hk;exact hn,rfl,rfl,fun k b h hk _=>by
 show hlk (hset (killH n st.h) n x) k=_
 rw [jga,if_neg (jnr hk hn),jld,h];rfl⟩
theorem jjp {n:Nat} (hn:n∈hs∨n∈bs) (x:Blk):Frm hs bs st { st with h:=hset st.h n x }:=⟨[],fun k hk=>by simp at hk,rfl,rfl,fun k b h hk hb=>by
 show hlk (hset st.h n x) k=_
 rw [jga,if_neg (hn.elim (jnr hk) (jnr hb)),h];rfl⟩
theorem jvy {n:Nat} (hn:n∈bs):Frm hs bs st { st with h:=hdel st.h n }:=⟨[],fun k hk=>by simp at hk,rfl,rfl,fun k b h _ hk=>by
 show hlk (hdel st.h n) k=_
 rw [jwa,if_neg (jnr hk hn),h];rfl⟩
theorem jqe:∀{xs:List (Nat × Blk)} {st st1:St},adds st xs=some st1→Frm hs bs st st1
 | [],st,st1,h=>by simp only [adds,Option.some.injEq] at h;subst h;exact .refl _ _ _
 | (n,b) :: r,st,st1,h=>by
  simp only [adds] at h
  split at h
  ·cases h
  ·have h1:Frm hs bs st { st with h:=st.h++[(n,b)] }:=⟨[],fun k hk=>by simp at hk,rfl,rfl,fun k x hx _ _=>by
    show hlk (st.h++[(n,b)]) k=_
    rw [jje,hx];rfl⟩
   exact h1.trans (jqe h)
theorem jsc {xs:List (Nat × Blk)} {x:Bool × SV} {r:Bool × SV × St} (h:((adds st xs).map fun st2=>(x.1,x.2,st2))=some r):Frm hs bs st r.2.2:=by
 rw [Option.map_eq_some_iff] at h
 obtain ⟨st2,h1,h2⟩:=h
 cases h2
 exact jqe h1

theorem jgy {x:SV} {d:D} (hx:∀n∈ownC x,n∈hs) (h:take1 st x=some (d,st1)):Frm hs bs st st1:=by
 unfold take1 at h
 split at h
 ·split at h
  ·cases h;exact .refl _ _ _
  ·cases h
 ·cases h;exact .refl _ _ _
 ·rename_i n
  split at h
  ·split at h
   ·cases h
   ·cases h;exact jgp (hx n (by simp [ownC]))
  ·cases h
 ·cases h
theorem jol:∀{vs:List SV} {ds:List D} {st st1:St},(∀n∈jaa vs,n∈hs)→takes st vs=some (ds,st1)→Frm hs bs st st1
 | [],ds,st,st1,_,h=>by simp only [takes,Option.some.injEq,Prod.mk.injEq] at h;obtain ⟨rfl,rfl⟩:=h;exact .refl _ _ _
 | v :: vs,ds,st,st1,hv,h=>by
  simp only [takes] at h
  split at h
  ·rename_i h1
   split at h
   ·rename_i h2
    cases h
    exact (jgy (fun n hn=>hv n (by simp [jaa,hn])) h1).trans (jol (fun n hn=>hv n (by simp [jaa,hn])) h2)
   ·cases h
  ·cases h
theorem jlf:∀{ks:List (Option (Nat × Nat))} {vs:List SV} {ds:List D} {st st1:St},(∀n∈jaa vs,n∈hs)→takeK st ks vs=some (ds,st1)→Frm hs bs st st1
 | [],vs,ds,st,st1,_,h=>by
  cases vs with
  | nil=>simp only [takeK,Option.some.injEq,Prod.mk.injEq] at h;obtain ⟨rfl,rfl⟩:=h;exact .refl _ _ _
  | cons v vs=>simp [takeK] at h
 | none :: ks,vs,ds,st,st1,hv,h=>by
  cases vs with
  | nil=>simp [takeK] at h
  | cons v vs =>
   cases v<;>simp only [takeK] at h
   case d x =>
    split at h
    ·rename_i h2;cases h;exact jlf (fun n hn=>hv n (by simp [jaa,hn])) h2
    ·cases h
   case bx m i x =>
    split at h
    ·rename_i h2;cases h;exact jlf (fun n hn=>hv n (by simp [jaa,hn])) h2
    ·cases h
   all_goals cases h
 | some (e,sz) :: ks,vs,ds,st,st1,hv,h=>by
  cases vs with
  | nil=>simp [takeK] at h
  | cons v vs =>
   have hv':∀n∈jaa vs,n∈hs:=fun n hn=>hv n (by simp [jaa,hn])
   simp only [takeK] at h
   split at h
   ·split at h
    ·rename_i h2;cases h;exact jlf hv' h2
    ·cases h
   ·split at h
    ·split at h
     ·split at h
      ·rename_i h2
       cases h
       exact (jgp (hv _ (by simp [jaa,ownC]))).trans (jlf hv' h2)
      ·cases h
     ·cases h
    ·cases h
   ·cases h
def Shr (st st1:St):Prop:=∀n cs,hlk st1.h n=some (.box cs)→∃cs0,hlk st.h n=some (.box cs0)∧∀k∈jaa cs,k∈jaa cs0
theorem Shr.refl (st:St):Shr st st:=fun n cs h=>⟨cs,h,fun k hk=>hk⟩
theorem Shr.trans (A:Shr st st1) (B:Shr st1 st2):Shr st st2:=fun n cs h=>by
 obtain ⟨c1,h1,h2⟩:=B n cs h
 obtain ⟨c2,h3,h4⟩:=A n c1 h1
 exact ⟨c2,h3,fun k hk=>h4 k (h2 k hk)⟩
theorem juq {k n:Nat} {v:SV} (h:k∈ownC (killC n v)):k∈ownC v:=by
 cases v<;>simp only [killC] at h<;>first | exact h | (split at h<;>first | exact h | (simp [ownC] at h))
theorem jti {k n:Nat}:∀{cs:List SV},k∈jaa (killCs n cs)→k∈jaa cs
 | [],h=>h
 | c :: cs,h=>by
  simp only [killCs,jaa,List.mem_append] at h ⊢
  rcases h with h | h
  ·exact .inl (juq h)
  ·exact .inr (jti h)
theorem shr_del (n:Nat):Shr st { kill st n with h:=hdel (killH n st.h) n }:=fun k cs h=>by
 have h':hlk (hdel (killH n st.h) n) k=some (.box cs):=h
 rw [jwa] at h'
 split at h'
 ·cases h'
 ·rw [jld,Option.map_eq_some_iff] at h'
  obtain ⟨b,h1,h2⟩:=h'
  cases b with
  | row e sz xs=>cases h2
  | box cs0=>simp only [killB,Blk.box.injEq] at h2;subst h2;exact ⟨cs0,h1,fun k hk=>jti hk⟩
theorem juz (n:Nat):Shr st { st with h:=hdel st.h n }:=fun k cs h=>by
 have h':hlk (hdel st.h n) k=some (.box cs):=h
 rw [jwa] at h'
 split at h'
 ·cases h'
 ·exact ⟨cs,h',fun k hk=>hk⟩
theorem jef:∀{ks:List (Option (Nat × Nat))} {vs:List SV} {ds:List D} {st st1:St},takeK st ks vs=some (ds,st1)→Shr st st1
 | [],vs,ds,st,st1,h=>by
  cases vs with
  | nil=>simp only [takeK,Option.some.injEq,Prod.mk.injEq] at h;obtain ⟨rfl,rfl⟩:=h;exact .refl _
  | cons v vs=>simp [takeK] at h
 | none :: ks,vs,ds,st,st1,h=>by
  cases vs with
  | nil=>simp [takeK] at h
  | cons v vs =>
   cases v<;>simp only [takeK] at h
   case d x =>
    split at h
    ·rename_i h2;cases h;exact jef h2
    ·cases h
   case bx m i x =>
    split at h
    ·rename_i h2;cases h;exact jef h2
    ·cases h
   all_goals cases h
 | some (e,sz) :: ks,vs,ds,st,st1,h=>by
  cases vs with
  | nil=>simp [takeK] at h
  | cons v vs =>
   simp only [takeK] at h
   split at h
   ·split at h
    ·rename_i h2;cases h;exact jef h2
    ·cases h
   ·split at h
    ·split at h
     ·split at h
      ·rename_i h2;cases h;exact (shr_del _).trans (jef h2)
      ·cases h
     ·cases h
    ·cases h
   ·cases h
theorem jus {k:Nat}:∀{cs:List SV} {n:Nat},k∈jaa (cs.drop n)→k∈jaa cs
 | [],n,h=>by simpa using h
 | c :: cs,0,h=>h
 | c :: cs,n+1,h=>by simp only [List.drop_succ_cons] at h;simp only [jaa,List.mem_append];exact .inr (jus h)
theorem jst {k:Nat}:∀{cs:List SV} {n:Nat},k∈jaa (cs.take n)→k∈jaa cs
 | [],n,h=>by simpa using h
 | c :: cs,0,h=>by simp [jaa] at h
 | c :: cs,n+1,h=>by
  simp only [List.take_succ_cons,jaa,List.mem_append] at h ⊢
  rcases h with h | h
  ·exact .inl h
  ·exact .inr (jst h)
def jab (hs bs:List Nat) (st:St):List Mode→List SV→Prop
 | .own _ :: ms,v :: vs=>(∀n∈jaa (cellsOf v),n∈hs)∧jab hs bs st ms vs
 | .io _ :: ms,v :: vs=>(∀n∈jaa (cellsOf v),n∈hs)∧jab hs bs st ms vs
 | .ptr _ :: ms,.ptr n _ :: vs=>n∈bs∧(∀cs,hlk st.h n=some (.box cs)→∀k∈jaa cs,k∈hs)∧jab hs bs st ms vs
 | _ :: ms,_ :: vs=>jab hs bs st ms vs
 | _,_=>True
theorem jcc:∀{ms:List Mode} {vs:List SV},(∀n∈jua st ms vs,n∈hs)→(∀n∈boxesCall ms vs,n∈bs)→jab hs bs st ms vs
 | [],vs,_,_=>by cases vs<;>trivial
 | m :: ms,[],_,_=>by cases m<;>trivial
 | m :: ms,v :: vs,h,g=>by
  cases m with
  | own ks=>simp only [jua,List.mem_append] at h;exact ⟨fun n hn=>h n (.inl hn),jcc (fun n hn=>h n (.inr hn)) g⟩
  | io ks=>simp only [jua,List.mem_append] at h;exact ⟨fun n hn=>h n (.inl hn),jcc (fun n hn=>h n (.inr hn)) g⟩
  | ptr ks =>
   cases v with
   | ptr n off =>
    simp only [jua,List.mem_append] at h
    simp only [boxesCall,List.mem_cons] at g
    refine ⟨g n (.inl rfl),fun cs hc k hk=>h k (.inl ?_),jcc (fun k hk=>h k (.inr hk)) (fun k hk=>g k (.inr hk))⟩
    rw [hc];exact hk
   | _=>exact jcc (ms:=ms) (vs:=vs) h g
  | bor=>exact jcc (ms:=ms) (vs:=vs) (by cases v<;>exact h) (by cases v<;>exact g)
  | rptr sz=>exact jcc (ms:=ms) (vs:=vs) (by cases v<;>exact h) (by cases v<;>exact g)
  | fnp f sz=>exact jcc (ms:=ms) (vs:=vs) (by cases v<;>exact h) (by cases v<;>exact g)
theorem jab.shr (S:Shr st st1):∀{ms:List Mode} {vs:List SV},jab hs bs st ms vs→jab hs bs st1 ms vs
 | [],vs,_=>by cases vs<;>trivial
 | m :: ms,[],_=>by cases m<;>trivial
 | m :: ms,v :: vs,h=>by
  cases m with
  | own ks=>exact ⟨h.1,jab.shr S h.2⟩
  | io ks=>exact ⟨h.1,jab.shr S h.2⟩
  | ptr ks =>
   cases v with
   | ptr n off =>
    refine ⟨h.1,fun cs hc k hk=>?_,jab.shr S h.2.2⟩
    obtain ⟨c0,h1,h2⟩:=S n cs hc
    exact h.2.1 c0 h1 k (h2 k hk)
   | _=>exact jab.shr S (ms:=ms) (vs:=vs) h
  | bor=>exact jab.shr S (ms:=ms) (vs:=vs) (by cases v<;>exact h)
  | rptr sz=>exact jab.shr S (ms:=ms) (vs:=vs) (by cases v<;>exact h)
  | fnp f sz=>exact jab.shr S (ms:=ms) (vs:=vs) (by cases v<;>exact h)
theorem jxz {m:Mode} {ms:List Mode} {x:SV} {xs:List SV} (ho:¬ ∃ks,m=.own ks) (hp:¬ ((∃ks,m=.ptr ks)∧∃n off,x=.ptr n off)) (s:St):given s (m :: ms) (x :: xs)=match given s ms xs with | some (r,st2)=>some (none :: r,st2) | none=>none:=by
 cases m with
 | own ks=>exact absurd ⟨ks,rfl⟩ ho
 | ptr ks=>cases x<;>first | rfl | exact absurd ⟨⟨_,rfl⟩,_,_,rfl⟩ hp
 | _=>rfl
theorem jgh:∀{ms:List Mode} {xs:List SV} {r:List (Option DV)} {st st1:St},jab hs bs st ms xs→given st ms xs=some (r,st1)→Frm hs bs st st1
 | [],xs,r,st,st1,_,h=>by
  cases xs with
  | nil=>simp only [given,Option.some.injEq,Prod.mk.injEq] at h;obtain ⟨rfl,rfl⟩:=h;exact .refl _ _ _
  | cons x xs=>simp [given] at h
 | m :: ms,[],r,st,st1,_,h=>by cases m<;>simp [given] at h
 | m :: ms,x :: xs,r,st,st1,hh,h=>by
  by_cases ho:∃ks,m=.own ks
  ·obtain ⟨ks,rfl⟩:=ho
   simp only [given] at h
   split at h
   ·rename_i h1
    split at h
    ·rename_i h2
     have a1:=jlf (bs:=bs) hh.1 h1
     have a2:=jgh (hh.2.shr (jef h1)) h2
     split at h
     ·cases h;exact a1.trans a2
     ·cases h;exact a1.trans a2
     ·cases h
    ·cases h
   ·cases h
  ·by_cases hp:(∃ks,m=.ptr ks)∧∃n off,x=.ptr n off
   ·obtain ⟨⟨ks,rfl⟩,n,off,rfl⟩:=hp
    simp only [given] at h
    split at h
    ·rename_i cs hb
     split at h
     ·split at h
      ·rename_i h1
       split at h
       ·rename_i h2
        cases h
        have a0:Frm hs bs st { st with h:=hdel st.h n }:=jvy hh.1
        have a1:=jlf (hs:=hs) (bs:=bs) (fun k hk=>hh.2.1 cs hb k (jus (jst hk))) h1
        have a2:=jgh (hh.2.2.shr ((juz n).trans (jef h1))) h2
        exact (a0.trans a1).trans a2
       ·cases h
      ·cases h
     ·cases h
    ·cases h
   ·rw [jxz ho hp] at h
    split at h
    ·rename_i h2
     cases h
     refine jgh ?_ h2
     cases m with
     | own ks=>exact absurd ⟨ks,rfl⟩ ho
     | ptr ks=>cases x<;>first | exact hh | exact absurd ⟨⟨_,rfl⟩,_,_,rfl⟩ hp
     | bor=>cases x<;>exact hh
     | rptr sz=>cases x<;>exact hh
     | fnp f sz=>cases x<;>exact hh
     | io ks=>cases x<;>exact hh.2
    ·cases h
theorem jdl {h0:List (Nat × Blk)} {ns sus:List Nat}:∀{ms:List Mode} {xs:List SV} {os:List (List D)} {st st1:St},backs h0 ns sus st ms xs os=some st1→Frm hs bs st st1
 | [],xs,os,st,st1,h=>by
  cases xs<;>cases os<;>simp [backs] at h
  subst h
  exact .refl _ _ _
 | m :: ms,[],os,st,st1,h=>by cases m<;>cases os<;>simp [backs] at h
 | m :: ms,x :: xs,os,st,st1,h=>by
  by_cases hp:∃ks,m=.ptr ks
  ·obtain ⟨ks,rfl⟩:=hp
   by_cases hx:∃n off,x=.ptr n off
   ·obtain ⟨n,off,rfl⟩:=hx
    cases os with
    | nil=>simp [backs] at h
    | cons o os =>
     simp only [backs] at h
     split at h
     ·split at h
      ·split at h
       ·split at h
        ·split at h
         ·rename_i ha;exact (jqe ha).trans (jdl h)
         ·cases h
        ·cases h
       ·cases h
      ·cases h
     ·cases h
   ·cases x<;>first | exact absurd ⟨_,_,rfl⟩ hx | (simp [backs] at h)
  ·have hio:¬ ∃ks,m=.io ks:=fun ⟨ks,e⟩=>by subst e;simp [backs] at h
   have eq:backs h0 ns sus st (m :: ms) (x :: xs) os=backs h0 ns sus st ms xs os:=by
    cases m with
    | ptr ks=>exact absurd ⟨ks,rfl⟩ hp
    | io ks=>exact absurd ⟨ks,rfl⟩ hio
    | _=>cases os<;>rfl
   rw [eq] at h
   exact jdl h
theorem jtd:∀{ms:List Mode} {xs:List SV},jab hs bs st ms xs→∀n∈ioNs ms xs,n∈hs
 | [],xs,_,n,hn=>by cases xs<;>simp [ioNs] at hn
 | m :: ms,[],_,n,hn=>by cases m<;>simp [ioNs] at hn
 | m :: ms,x :: xs,h,n,hn=>by
  cases m with
  | io ks =>
   simp only [ioNs,List.mem_append] at hn
   rcases hn with hn | hn
   ·exact h.1 n hn
   ·exact jtd h.2 n hn
  | own ks=>exact jtd h.2 n hn
  | ptr ks =>
   cases x with
   | ptr k off=>exact jtd h.2.2 n hn
   | _=>exact jtd (ms:=ms) (xs:=xs) h n hn
  | _=>exact jtd (ms:=ms) (xs:=xs) (by cases x<;>exact h) n hn
theorem jgw {s f:Nat} {b:Bool} {xs:List SV} (hh:jab hs bs st (C.sig f).ms xs) (h:callFn C st s f xs=some (b,v,st1)):Frm hs bs st st1:=by
 unfold callFn at h
 split at h
 ·obtain ⟨h2,outs,rfl,hp⟩:=jsj h
  exact ⟨[],by simp,rfl,rfl,fun n b hb hn _=>by show hlk h2 n=_;rw [jyi hp n (fun hm=>hn (jtd hh n hm))];exact hb⟩
 split at h
 ·rename_i h1
  split at h
  ·split at h
   ·split at h
    ·rename_i h2
     have k:=(jgh hh h1).trans (jdl h2)
     split at h
     ·cases h;exact k
     ·split at h
      ·split at h
       ·rename_i h3;cases h;exact k.trans (jqe h3)
       ·cases h
      ·cases h
     ·split at h
      ·split at h
       ·cases h;exact k
       ·split at h
        ·split at h
         ·rename_i h3;cases h;exact k.trans (jqe h3)
         ·cases h
        ·cases h
      ·cases h
     ·split at h
      ·split at h
       ·rename_i h3;cases h;exact k.trans (jqe h3)
       ·cases h
      ·cases h
     ·cases h
    ·cases h
  ·cases h
 ·cases h
theorem jxv {zs:List D} {x:SV} {ok:Bool} {ys:List (List D)} (hx:∀n∈ownC x,n∈hs) (h:source zs st x=some (ok,ys,st1)):Frm hs bs st st1:=by
 unfold source at h
 split at h
 ·rename_i n
  split at h
  ·split at h
   ·split at h
    ·cases h;exact .refl _ _ _
    ·cases h;exact jgp (hx n (by simp [ownC]))
   ·cases h
  ·cases h
 ·split at h
  ·cases h;exact .refl _ _ _
  ·cases h
 ·cases h;exact .refl _ _ _
 ·cases h
theorem jzw {n k:Nat} {v:SV} (h:k∈jaa (cellsOf (killV n v))):k∈jaa (cellsOf v):=by
 have one:∀{v:SV},(∀cs,v≠.agg cs)→(∀cs,killC n v≠.agg cs)→k∈jaa (cellsOf (killC n v))→k∈jaa (cellsOf v):=fun {v} h1 h2 h=>by
  have e1:cellsOf v=[v]:=by cases v<;>first | rfl | exact absurd rfl (h1 _)
  have e2:cellsOf (killC n v)=[killC n v]:=by
   generalize killC n v=u at h2
   cases u<;>first | rfl | exact absurd rfl (h2 _)
  rw [e2] at h
  rw [e1]
  simp only [jaa,List.append_nil] at h ⊢
  exact juq h
 cases v with
 | agg cs=>exact jti h
 | tup vs =>
  simp [killV,cellsOf,jaa,ownC] at h
 | own m=>exact one (fun cs e=>by cases e) (fun cs e=>by simp only [killC] at e;split at e<;>cases e) h
 | rp m i o=>exact one (fun cs e=>by cases e) (fun cs e=>by simp only [killC] at e;split at e<;>cases e) h
 | ov m i=>exact one (fun cs e=>by cases e) (fun cs e=>by simp only [killC] at e;split at e<;>cases e) h
 | ptr m o=>exact one (fun cs e=>by cases e) (fun cs e=>by simp only [killC] at e;split at e<;>cases e) h
 | fp f m o=>exact one (fun cs e=>by cases e) (fun cs e=>by simp only [killC] at e;split at e<;>cases e) h
 | _=>exact h
theorem jgs (p:Path) (x:Operand):∀(ns:List Nat) (m:List SV) (l:List (Nat × Path × Bool × SV)) (h h':List (Nat × Blk)) (k:Nat),k∈jaa (cellsOf (ev C ⟨jva ns m,jpa ns l,h'⟩ p x))→k∈jaa (cellsOf (ev C ⟨m,l,h⟩ p x))
 | [],m,l,h,h',k,hk=>by cases x<;>exact hk
 | n :: ns,m,l,h,h',k,hk=>by
  have h1:=jgs p x ns (killM n m) (killL n l) h h' k hk
  cases x with
  | tmp t =>
   have one:gt C ⟨killM n m,killL n l,h⟩ p t=killV n (gt C ⟨m,l,h⟩ p t):=by
    unfold gt
    simp only [jcb,jdc]
    cases lk l t with
    | none=>rfl
    | some e =>
     obtain ⟨q,c,y⟩:=e
     simp only [Option.map_some]
     split<;>rfl
   simp only [ev] at h1 ⊢
   rw [one] at h1
   exact jzw h1
  | _=>exact h1
theorem Frm.own (A:Frm hs bs st st1) {p:Path} {x:Operand} {k:Nat} (hk:k∈jaa (cellsOf (ev C st1 p x))):k∈jaa (cellsOf (ev C st p x)):=by
 obtain ⟨ns,_,a2,a3,_⟩:=A
 have:ev C st1 p x=ev C ⟨jva ns st.m,jpa ns st.l,st1.h⟩ p x:=by rw [←a2,←a3]
 rw [this] at hk
 exact jgs p x ns st.m st.l st.h st1.h k hk
theorem jmn {sz:Nat}:∀{parts:List (Nat × Operand)} {k:Nat} {rows:List (List D)} {st st1:St},(∀q∈parts,∀n∈jaa (cellsOf (ev C st [] q.2)),n∈hs)→rowsOf C sz parts k st=some (rows,st1)→Frm hs bs st st1
 | [],k,rows,st,st1,_,h=>by simp only [rowsOf,Option.some.injEq,Prod.mk.injEq] at h;obtain ⟨rfl,rfl⟩:=h;exact .refl _ _ _
 | (i,x) :: r,k,rows,st,st1,hh,h=>by
  simp only [rowsOf] at h
  split at h
  ·split at h
   ·rename_i h1
    split at h
    ·split at h
     ·rename_i h2
      cases h
      have a1:=jol (hs:=hs) (bs:=bs) (fun n hn=>hh (i,x) (by simp) n hn) h1
      exact a1.trans (jmn (fun q hq n hn=>hh q (by simp [hq]) n (a1.own hn)) h2)
     ·cases h
    ·cases h
   ·cases h
  ·cases h
theorem jyw {t:TypeId} {p x:SV} {b:Bool} (hp:∀n∈nmV p,n∈hs) (hx:∀n∈jaa (cellsOf x),n∈hs) (h:store C st t p x=some (b,st1)):Frm hs bs st st1:=by
 unfold store at h
 split at h
 ·split at h
  ·rename_i n off
   split at h
   ·split at h
    ·cases h;exact jjp (.inl (hp n (by simp [nmV,nmA,nmC]))) _
    ·cases h
   ·cases h
  ·rename_i n i off
   split at h
   ·rename_i h1
    split at h
    ·cases h;exact (jol hx h1).trans (jjp (.inl (hp n (by simp [nmV,nmA,nmC]))) _)
    ·cases h
   ·cases h
  ·cases h
 ·cases h
theorem jyv {t:TypeId} {n off:Nat} {x:SV} {b:Bool} (h:store C st t (.ptr n off) x=some (b,st1)):Frm [] [n] st st1:=by
 unfold store at h
 split at h
 ·dsimp only at h
  split at h
  ·split at h
   ·cases h;exact jjp (.inr (by simp)) _
   ·cases h
  ·cases h
 ·cases h
theorem jpp {el n:Nat} {ok:List (List D)→Bool} {f:List (List D)→List (List D)} {b:Bool} (hn:n∈hs) (h:cut C st el n ok f=some (b,v,st1)):Frm hs bs st st1:=by
 unfold cut at h
 split at h
 ·split at h
  ·cases h;exact jlu hn _
  ·cases h
 ·cases h
theorem jwp:∀{parts:List (Nat × Operand)},(∀n∈jah C st parts,n∈hs)→∀q∈parts,∀n∈jaa (cellsOf (ev C st [] q.2)),n∈hs
 | [],_,q,hq=>by simp at hq
 | (i,x) :: r,h,q,hq=>by
  simp only [jah,List.mem_append] at h
  rcases List.mem_cons.1 hq with rfl | hq
  ·exact fun n hn=>h n (.inl hn)
  ·exact jwp (fun n hn=>h n (.inr hn)) q hq
theorem jjk {s:Nat} {b:Bool} (h:heavy C st s op=some (b,v,st1)):Frm (hits C st op) (hitsB C st op) st st1:=by
 cases op
 case alloc t =>
  simp only [heavy] at h
  split at h
  ·exact jsc (x:=(true,.ptr (nm s 0) 0)) h
  ·cases h
 case box t x =>
  simp only [heavy] at h
  split at h
  ·exact jsc (x:=(true,.ptr (nm s 0) 0)) h
  ·cases h
 case buildSlice t n parts =>
  simp only [heavy] at h
  split at h
  ·split at h
   ·split at h
    ·rename_i hr
     split at h
     ·exact (jmn (jwp fun n hn=>hn) hr).trans (jsc (x:=(true,.own (nm s 0))) h)
     ·cases h
    ·cases h
   ·cases h
  ·cases h
 case makeSlice t x y =>
  simp only [heavy] at h
  split at h
  ·rename_i el kx k ky k' ht h1 h2
   split at h
   ·split at h
    ·exact jsc (x:=(decide (0≤k∧k≤lim∧k'=k),.own (nm s 0))) h
    ·cases h
   ·cases h
  ·cases h
 case store t p x =>
  simp only [heavy] at h
  rw [Option.map_eq_some_iff] at h
  obtain ⟨⟨b2,st2⟩,h1,h2⟩:=h
  cases h2
  by_cases hp:∃n off,ev C st [] p=.ptr n off
  ·obtain ⟨n,off,hp⟩:=hp
   simp only [hits,hitsB,hp]
   rw [hp] at h1
   exact jyv h1
  ·have e:hits C st (.store t p x)=nmV (ev C st [] p)++jaa (cellsOf (ev C st [] x)):=by
    simp only [hits]
    split
    ·rename_i n off hv;exact absurd ⟨n,off,hv⟩ hp
    ·rfl
   rw [e]
   exact jyw (fun n hn=>by simp [hn]) (fun n hn=>by simp [hn]) h1
 case slice t x lo hi mx =>
  simp only [heavy] at h
  split at h
  ·rename_i h1 h2 h3 h4 h5;exact jpp (by simp [hits,h2,cellsOf,jaa,ownC]) h
  ·rename_i h1 h2 h3 h4 h5;exact jpp (by simp [hits,h2,cellsOf,jaa,ownC]) h
  ·rename_i h1 h2 h3 h4 h5;exact jpp (by simp [hits,h2,cellsOf,jaa,ownC]) h
  ·cases h
 case call c =>
  obtain ⟨callee,args,ts⟩:=c
  simp only [heavy] at h
  split at h
  ·split at h
   ·rename_i t t' x y hts hxy
    have hx:∀n∈ownC x,n∈hits C st (.call ⟨.builtin .append,args,ts⟩):=fun n hn=>by simp only [hits,hxy,jaa,List.mem_append];exact .inl hn
    have hy:∀n∈ownC y,n∈hits C st (.call ⟨.builtin .append,args,ts⟩):=fun n hn=>by simp only [hits,hxy,jaa,List.mem_append];exact .inr (.inl hn)
    split at h
    ·split at h
     ·split at h
      ·split at h
       ·rename_i ok ys sta hs'
        have a1:=jxv (bs:=hitsB C st (.call ⟨.builtin .append,args,ts⟩)) hy hs'
        split at h
        ·rename_i n
         split at h
         ·split at h
          ·cases h;exact a1.trans (jlu (hx n (by simp [ownC])) _)
          ·cases h
         ·cases h
        ·exact a1.trans (jsc (x:=(ok&&decide (ys.length≤lim),.own (nm s 0))) h)
        ·cases h
       ·cases h
      ·cases h
     ·cases h
    ·cases h
   ·cases h
  ·exact jgw (jcc (fun n hn=>hn) fun n hn=>hn) h
  ·cases h
 all_goals (simp [heavy] at h)
end Go.Den

/- A light operation whose operands lead to nothing that was touched comes to the same. -/
namespace Go.Den
open Go
variable {C:Ctx} {s s1:St} {p:Path} {op:Op} {hs:List Nat}

def jhd (h:List (Nat × Blk)) (k:Nat):Option (List (List D)):=match hlk h k with | some (.row _ _ xs)=>some xs | _=>none
def SeeV (s s1:St) (v:SV):Prop:=∀n∈nmV v,hlk s1.h n=hlk s.h n∧∀cs,hlk s.h n=some (.box cs)→∀k∈nmCs cs,jhd s1.h k=jhd s.h k
theorem jtu (st:St) (n:Nat):toD st (.own n)=(jhd st.h n).map .l:=by
 simp only [toD,jhd]
 split<;>simp_all
theorem toD_rowK (st:St) (n k:Nat):toD st (.ov n k)=(jhd st.h n).map fun xs=>.l (xs.take k):=by
 simp only [toD,jhd]
 split<;>simp_all
theorem jou {x:SV} (h:∀k∈nmC x,jhd s1.h k=jhd s.h k):toD s1 x=toD s x:=by
 cases x with
 | own n=>rw [jtu,jtu,h n (by simp [nmC])]
 | ov n k=>rw [toD_rowK,toD_rowK,h n (by simp [nmC])]
 | _=>rfl
theorem jhj:∀{xs:List SV},(∀k∈nmCs xs,jhd s1.h k=jhd s.h k)→toDs s1 xs=toDs s xs
 | [],_=>rfl
 | x :: xs,h=>by
  have e1:=jou (x:=x) (fun k hk=>h k (by simp [nmCs,hk]))
  have e2:=jhj (xs:=xs) (fun k hk=>h k (by simp [nmCs,hk]))
  simp only [toDs,e1,e2]
theorem jhl {k:Nat}:∀{cs:List SV} {n:Nat},k∈nmCs (cs.drop n)→k∈nmCs cs
 | [],n,h=>by simpa using h
 | c :: cs,0,h=>h
 | c :: cs,n+1,h=>by simp only [List.drop_succ_cons] at h;simp only [nmCs,List.mem_append];exact .inr (jhl h)
theorem jwj {k:Nat}:∀{cs:List SV} {n:Nat},k∈nmCs (cs.take n)→k∈nmCs cs
 | [],n,h=>by simpa using h
 | c :: cs,0,h=>by simp [nmCs] at h
 | c :: cs,n+1,h=>by
  simp only [List.take_succ_cons,nmCs,List.mem_append] at h ⊢
  rcases h with h | h
  ·exact .inl h
  ·exact .inr (jwj h)
theorem SeeV.row {v:SV} (h:SeeV s s1 v) {k:Nat} (hk:k∈nmV v):jhd s1.h k=jhd s.h k:=by simp only [jhd,(h k hk).1]
theorem jtx {m:Mode} {v:SV} (h:SeeV s s1 v):argOf s1 m v=argOf s m v:=by
 cases m with
 | bor =>
  cases v with
  | agg cs=>simp only [argOf,jhj (fun k hk=>h.row (v:=.agg cs) hk)]
  | tup vs=>rfl
  | own n=>simp only [argOf,jou (x:=.own n) (fun k hk=>h.row (v:=.own n) hk)]
  | ov n k=>simp only [argOf,jou (x:=.ov n k) (fun j hk=>h.row (v:=.ov n k) hk)]
  | _=>rfl
 | rptr sz =>
  cases v with
  | ptr n off =>
   obtain ⟨h1,h2⟩:=h n (by simp [nmV,nmA,nmC])
   simp only [argOf,h1]
   cases hb:hlk s.h n with
   | none=>rfl
   | some b =>
    cases b with
    | row e sz xs=>rfl
    | box cs=>simp only [jhj (fun k hk=>h2 cs hb k (jhl (jwj hk)))]
  | _=>rfl
 | fnp f sz =>
  cases v with
  | fp g n off =>
   obtain ⟨h1,h2⟩:=h n (by simp [nmV,nmA,nmC])
   simp only [argOf,h1]
   cases hb:hlk s.h n with
   | none=>rfl
   | some b =>
    cases b with
    | row e sz xs=>rfl
    | box cs=>simp only [jhj (fun k hk=>h2 cs hb k (jhl (jwj hk)))]
  | _=>rfl
 | _=>cases v<;>rfl
theorem jnm:∀{ms:List Mode} {vs:List SV},(∀v∈vs,SeeV s s1 v)→zipArgs s1 ms vs=zipArgs s ms vs
 | [],[],_=>rfl
 | [],_ :: _,_=>rfl
 | _ :: _,[],_=>rfl
 | m :: ms,v :: vs,h=>by
  have e1:=jtx (m:=m) (h v (by simp))
  have e2:=jnm (ms:=ms) (vs:=vs) (fun x hx=>h x (by simp [hx]))
  simp only [zipArgs,e1,e2]
theorem jzz {t:TypeId} {v:SV} (h:SeeV s s1 v):load C s1 t v=load C s t v:=by
 cases v with
 | ptr n off=>simp only [load,(h n (by simp [nmV,nmA,nmC])).1]
 | _=>rfl
theorem juw {t:Ty} {v:SV} (h:SeeV s s1 v):lenOf s1 t v=lenOf s t v:=by
 cases v with
 | own n=>cases t<;>simp only [lenOf,(h n (by simp [nmV,nmA,nmC])).1]
 | d x=>cases t<;>first | rfl | (cases x<;>rfl)
 | _=>cases t<;>rfl
theorem jsw (hA:∀t,Operand.tmp t∈op.operands.toList→∀p,gt C s1 p t=gt C s p t) (hB:∀t,Operand.tmp t∈op.operands.toList→∀p,SeeV s s1 (gt C s p t)):light C s1 p op=light C s p op:=by
 have hev:∀x∈op.operands.toList,∀p,ev C s1 p x=ev C s p x:=fun x hx p=>by
  cases x with
  | tmp t=>exact hA t hx p
  | _=>rfl
 have none:∀v,SeeV s s1 (ofConst v):=fun v n hn=>by
  have:nmV (ofConst v)=[]:=by unfold ofConst;split<;>rfl
  rw [this] at hn;simp at hn
 have hse:∀x∈op.operands.toList,∀p,SeeV s s1 (ev C s p x):=fun x hx p=>by
  cases x with
  | tmp t=>exact hB t hx p
  | const v=>exact none v
  | func f=>intro n hn;simp [ev,nmV,nmA,nmC] at hn
  | _=>intro n hn;simp [ev,nmV,nmA,nmC] at hn
 cases op
 case pick c x y =>
  cases c with
  | tmp t=>simp only [light,hA t (by simp [Op.operands]),hev x (by simp [Op.operands]),hev y (by simp [Op.operands])]
  | _=>rfl
 case build t parts =>
  simp only [light]
  split
  ·rw [jvh (fun q hq=>hev q.2 (by simp only [Op.operands,List.mem_map];exact ⟨q,hq,rfl⟩) p)]
  ·rfl
 case call c =>
  obtain ⟨callee,args,ts⟩:=c
  have hin:∀x∈args.toList,x∈(Op.call ⟨callee,args,ts⟩).operands.toList:=fun x hx=>by simp [Op.operands,Call.operands];cases callee<;>simp<;>first | exact .inr (by simpa using hx) | simpa using hx
  have ha:∀x∈args.toList,ev C s1 p x=ev C s p x:=fun x hx=>hev x (hin x hx) p
  have hz:∀ms,zipArgs s1 ms (evs C s p args.toList)=zipArgs s ms (evs C s p args.toList):=fun ms=>jnm (fun v hv=>by
     have:∀(xs:List Operand),(∀x∈xs,SeeV s s1 (ev C s p x))→∀v∈evs C s p xs,SeeV s s1 v:=fun xs=>by
      induction xs with
      | nil=>intro _ v hv;simp [evs] at hv
      | cons x xs ih =>
       intro h v hv
       simp only [evs,List.mem_cons] at hv
       rcases hv with rfl | hv
       ·exact h x (by simp)
       ·exact ih (fun y hy=>h y (by simp [hy])) v hv
     exact this _ (fun x hx=>hse x (hin x hx) p) v hv)
  simp only [light]
  split
  ·split
   ·rename_i t x h1 h2
    rw [ha x (by rw [h2];simp),juw (hse x (hin x (by rw [h2];simp)) p)]
   ·rfl
  ·split
   ·rename_i x y h2;rw [ha x (by rw [h2];simp),ha y (by rw [h2];simp)]
   ·rfl
  ·split
   ·rename_i x y h2;rw [ha x (by rw [h2];simp),ha y (by rw [h2];simp)]
   ·rfl
  ·split
   ·rw [jbc ha,hz]
   ·rw [jbc ha]
   ·rfl
  ·rename_i t
   rw [hA t (by simp [Op.operands,Call.operands]) p]
   split
   ·simp only [jro,jbc ha,hz]
   ·rfl
  ·rfl
 case slice t x lo hi mx =>
  cases mx with
  | some m=>rfl
  | none =>
   have h1:lo.map (ev C s1 p)=lo.map (ev C s p):=by cases lo with | none=>rfl | some y=>simp [hev y (by simp [Op.operands])]
   have h2:hi.map (ev C s1 p)=hi.map (ev C s p):=by cases hi with | none=>rfl | some y=>simp [hev y (by simp [Op.operands])]
   have hx:=hse x (by simp [Op.operands]) p
   simp only [light,hev x (by simp [Op.operands]),h1,h2]
   have hn:∀n,ev C s p x=.own n→hlk s1.h n=hlk s.h n:=fun n e=>by
    rw [e] at hx
    exact (hx n (by simp [nmV,nmA,nmC])).1
   generalize ev C s p x=X at hn ⊢
   generalize lo.map (ev C s p)=L
   generalize hi.map (ev C s p)=H
   cases X with
   | own n =>
    have hn:=hn n rfl
    cases L with
    | some l=>rfl
    | none =>
     cases H with
     | none=>rfl
     | some y =>
      cases y with
      | d dd =>
       cases dd with
       | i k h=>simp only [hn]
       | _=>rfl
      | _=>rfl
   | d dx =>
    cases L with
    | none =>
     cases H with
     | none=>rfl
     | some y=>cases y with
      | d dd=>cases dd<;>rfl
      | _=>rfl
    | some l =>
     cases l with
     | d dl =>
      cases dl with
      | i k l =>
       cases H with
       | none=>rfl
       | some y=>cases y with
        | d dd=>cases dd<;>rfl
        | _=>rfl
      | _=>cases H<;>rfl
     | _=>cases H<;>rfl
   | _=>rfl
 case convert a b x =>
  have hx:=hse x (by simp [Op.operands]) p
  simp only [light,hev x (by simp [Op.operands])]
  generalize ev C s p x=v at hx
  generalize tyOf C.P a=A
  generalize tyOf C.P b=B
  cases v with
  | own n =>
   have e:=(hx n (by simp [nmV,nmA,nmC])).1
   cases A<;>cases B<;>first | rfl | (dsimp only;rw [e])
  | d y=>cases A<;>cases B<;>first | rfl | (cases y<;>rfl)
  | _=>cases A<;>cases B<;>rfl
 case indexAddr t x y =>
  have hx:=hse x (by simp [Op.operands]) p
  simp only [light,hev x (by simp [Op.operands]),hev y (by simp [Op.operands])]
  generalize ev C s p x=v at hx
  generalize ev C s p y=u
  generalize tyOf C.P t=A
  cases A with
  | sl el =>
   dsimp only
   generalize (tyOf C.P el).zeros=Z
   cases Z with
   | none=>rfl
   | some zs =>
    dsimp only
    cases v with
    | own n =>
     have e:=(hx n (by simp [nmV,nmA,nmC])).1
     cases u with
     | d y=>cases y<;>first | rfl | (dsimp only;rw [e])
     | _=>rfl
    | d x=>cases x<;>(cases u<;>first | rfl | (rename_i d;cases d<;>rfl))
    | _=>rfl
  | _=>rfl
 case index t x y=>simp only [light,hev x (by simp [Op.operands]),hev y (by simp [Op.operands])]
 case binOp o t x y ty=>simp only [light,hev x (by simp [Op.operands]),hev y (by simp [Op.operands])]
 case load t x =>
  have hx:=hse x (by simp [Op.operands]) p
  simp only [light,hev x (by simp [Op.operands])]
  generalize ev C s p x=v at hx
  cases v with
  | rp n i off=>simp only [(hx n (by simp [nmV,nmA,nmC])).1]
  | _=>simp only [jzz hx]
 case unOp u t x=>cases u<;>simp only [light,hev x (by simp [Op.operands])]
 case move x=>simp only [light,hev x (by simp [Op.operands])]
 case assign x=>simp only [light,hev x (by simp [Op.operands])]
 case nilCheck x=>simp only [light,hev x (by simp [Op.operands])]
 case fieldAddr t x f=>simp only [light,hev x (by simp [Op.operands])]
 case field t x f=>simp only [light,hev x (by simp [Op.operands])]
 case extract x i=>simp only [light,hev x (by simp [Op.operands])]
 case makeFunc fn fs cap =>
  cases fn with
  | func f =>
   simp only [light]
   split
   ·rename_i x hfs hcap
    rw [hev x (by simp only [Op.operands];simp;exact .inl (by rw [←Array.mem_toList_iff,hfs];simp))]
   ·rfl
  | _=>rfl
 all_goals rfl

/-! from 'calm' -/
theorem juf:∀{ns:List Nat},jaj hs ns=true→∀n∈ns,n ∉ hs
 | [],_,n,hn=>by simp at hn
 | m :: ns,h,n,hn=>by
  simp only [jaj] at h
  split at h
  ·cases h
  ·rename_i hm
   rcases List.mem_cons.1 hn with rfl | hn
   ·exact fun h'=>hm (jpc.2 h')
   ·exact juf h n hn
theorem jts {h:List (Nat × Blk)}:∀{ns:List Nat},inH h ns=true→∀n∈ns,∃b,hlk h n=some b
 | [],_,n,hn=>by simp at hn
 | m :: ns,hh,n,hn=>by
  simp only [inH,Bool.and_eq_true] at hh
  rcases List.mem_cons.1 hn with rfl | hn
  ·exact Option.isSome_iff_exists.1 hh.1
  ·exact jts hh.2 n hn
theorem jom {h:List (Nat × Blk)}:∀{ns:List Nat},jwn hs h ns=true→∀n∈ns,∃b,hlk h n=some b∧∀cs,b=.box cs→jaj hs (nmCs cs)=true∧inH h (nmCs cs)=true
 | [],_,n,hn=>by simp at hn
 | m :: ns,hh,n,hn=>by
  simp only [jwn,Bool.and_eq_true] at hh
  rcases List.mem_cons.1 hn with rfl | hn
  ·have h1:=hh.1
   split at h1
   ·rename_i cs hb
    simp only [Bool.and_eq_true] at h1
    exact ⟨_,hb,fun cs' e=>by cases e;exact h1⟩
   ·rename_i b hne hb
    exact ⟨b,hb,fun cs e=>absurd e (hne cs)⟩
   ·cases h1
  ·exact jom hh.2 n hn
theorem jdb {n:Nat} {v:SV} (h:n ∉ nmC v):killC n v=v:=by
 cases v<;>first | rfl | (simp only [nmC,List.mem_singleton] at h;simp only [killC,if_neg (Ne.symm h)])
theorem jhg {n:Nat}:∀{cs:List SV},n ∉ nmCs cs→killCs n cs=cs
 | [],_=>rfl
 | c :: cs,h=>by
  simp only [nmCs,List.mem_append,not_or] at h
  simp only [killCs,jdb h.1,jhg h.2]
theorem jgm {n:Nat} {v:SV} (h:n ∉ nmA v):killA n v=v:=by
 cases v with
 | agg cs=>simp only [killA,jhg (show n ∉ nmCs cs from h)]
 | own m=>exact jdb (v:=.own m) h
 | ptr m o=>exact jdb (v:=.ptr m o) h
 | fp f m o=>exact jdb (v:=.fp f m o) h
 | rp m i o=>exact jdb (v:=.rp m i o) h
 | ov m i=>exact jdb (v:=.ov m i) h
 | _=>rfl
theorem jck {n:Nat}:∀{vs:List SV},n ∉ nmAs vs→killAs n vs=vs
 | [],_=>rfl
 | c :: cs,h=>by
  simp only [nmAs,List.mem_append,not_or] at h
  simp only [killAs,jgm h.1,jck h.2]
theorem jbu {n:Nat} {v:SV} (h:n ∉ nmV v):killV n v=v:=by
 cases v with
 | tup vs=>simp only [killV,jck h]
 | agg cs=>exact jgm (v:=.agg cs) h
 | own m=>exact jdb (v:=.own m) h
 | ptr m o=>exact jdb (v:=.ptr m o) h
 | fp f m o=>exact jdb (v:=.fp f m o) h
 | rp m i o=>exact jdb (v:=.rp m i o) h
 | ov m i=>exact jdb (v:=.ov m i) h
 | _=>rfl
theorem jsk:∀{ns:List Nat} {cs:List SV},(∀n∈ns,n ∉ nmCs cs)→jjc ns (.box cs)=.box cs
 | [],cs,_=>rfl
 | n :: ns,cs,h=>by simp only [jjc,killB,jhg (h n (by simp))];exact jsk (fun k hk=>h k (by simp [hk]))
theorem jlj:∀{ns:List Nat} {e sz:Nat} {xs:List (List D)},jjc ns (.row e sz xs)=.row e sz xs
 | [],_,_,_=>rfl
 | n :: ns,_,_,_=>by simp only [jjc,killB,jlj]
def jbf:List Nat→SV→SV | [],v=>v | n :: ns,v=>jbf ns (killV n v)
theorem jmg:∀{ns:List Nat} {v:SV},(∀n∈ns,n ∉ nmV v)→jbf ns v=v
 | [],v,_=>rfl
 | n :: ns,v,h=>by simp only [jbf,jbu (h n (by simp))];exact jmg (fun k hk=>h k (by simp [hk]))
theorem jik (t:Nat):∀(ns:List Nat) (l:List (Nat × Path × Bool × SV)),lk (jpa ns l) t=(lk l t).map fun e=>(e.1,e.2.1,jbf ns e.2.2)
 | [],l=>by cases h:lk l t<;>simp [jpa,jbf,h]
 | n :: ns,l=>by
  rw [jpa,jik t ns,jcb]
  cases lk l t<;>rfl
theorem jcg (ks:List Nat) (t:Nat):∀(ns:List Nat) (m:List SV),lkm ks (jva ns m) t=jbf ns (lkm ks m t)
 | [],m=>rfl
 | n :: ns,m=>by rw [jva,jcg ks t ns,jdc];rfl
theorem jmx (hd:dry op=true) (hA:∀t,Operand.tmp t∈op.operands.toList→∀p,gt C s1 p t=gt C s p t) (p:Path):light C s1 p op=light C s p op:=by
 have hev:∀x∈op.operands.toList,∀p,ev C s1 p x=ev C s p x:=fun x hx p=>by
  cases x with
  | tmp t=>exact hA t hx p
  | _=>rfl
 cases op<;>simp only [dry,Bool.false_eq_true] at hd
 case nilCheck x=>simp only [light,hev x (by simp [Op.operands])]
 case fieldAddr t x f=>simp only [light,hev x (by simp [Op.operands])]
 case field t x f=>simp only [light,hev x (by simp [Op.operands])]
 case extract x i=>simp only [light,hev x (by simp [Op.operands])]
 case move x=>simp only [light,hev x (by simp [Op.operands])]
 case assign x=>simp only [light,hev x (by simp [Op.operands])]
theorem jxo {t:Nat} {hs bs:List Nat} (h:jgo C s hs t=true) (A:Frm hs bs s s1):lk s1.l t=lk s.l t∧lkm C.keep s1.m t=(match lk s.l t with | some _=>lkm C.keep s1.m t | none=>lkm C.keep s.m t)∧∀p,gt C s1 p t=gt C s p t:=by
 obtain ⟨ns,a1,a2,a3,a4⟩:=A
 have hc:=juf h
 have hk:jbf ns (raw C s t)=raw C s t:=jmg fun n hn hm=>hc n hm (a1 n hn)
 have hlk:lk s1.l t=lk s.l t:=by
  rw [a3,jik]
  cases hl:lk s.l t with
  | none=>rfl
  | some e =>
   obtain ⟨q,c,v⟩:=e
   have:raw C s t=v:=by unfold raw;rw [hl]
   rw [this] at hk
   simp only [Option.map_some,hk]
 have hlm:lk s.l t=none→lkm C.keep s1.m t=lkm C.keep s.m t:=fun hl=>by
  have:raw C s t=lkm C.keep s.m t:=by unfold raw;rw [hl]
  rw [this] at hk
  rw [a2,jcg,hk]
 refine ⟨hlk,?_,fun p=>?_⟩
 ·cases hl:lk s.l t with
  | some e=>rfl
  | none=>exact hlm hl
 ·unfold gt
  rw [hlk]
  cases hl:lk s.l t with
  | none=>exact hlm hl
  | some e=>rfl
theorem jay {t:Nat} {hs bs:List Nat} (h:calm C s (hs++bs) t=true) (A:Frm hs bs s s1):lk s1.l t=lk s.l t∧lkm C.keep s1.m t=(match lk s.l t with | some _=>lkm C.keep s1.m t | none=>lkm C.keep s.m t)∧∀p,gt C s1 p t=gt C s p t∧SeeV s s1 (gt C s p t):=by
 simp only [calm,Bool.and_eq_true] at h
 obtain ⟨h1,h2⟩:=h
 obtain ⟨ns,a1,a2,a3,a4⟩:=A
 have hc':=juf h1
 have hc:∀n,n∈nmV (raw C s t)→n ∉ hs:=fun n hn hm=>hc' n hn (by simp [hm])
 have hb':∀n,n∈nmV (raw C s t)→n ∉ bs:=fun n hn hm=>hc' n hn (by simp [hm])
 have hH:=jom h2
 have hk:jbf ns (raw C s t)=raw C s t:=jmg fun n hn hm=>hc n hm (a1 n hn)
 have hlk:lk s1.l t=lk s.l t:=by
  rw [a3,jik]
  cases hl:lk s.l t with
  | none=>rfl
  | some e =>
   obtain ⟨q,c,v⟩:=e
   have:raw C s t=v:=by unfold raw;rw [hl]
   rw [this] at hk
   simp only [Option.map_some,hk]
 have hsee:SeeV s s1 (raw C s t):=fun n hn=>by
  obtain ⟨b,hb,hbc⟩:=hH n hn
  have hn':=hc n hn
  have h3:=a4 n b hb hn' (hb' n hn)
  cases b with
  | row e sz xs=>rw [jlj] at h3;exact ⟨by rw [h3,hb],fun cs hcs=>by rw [hb] at hcs;cases hcs⟩
  | box cs =>
   obtain ⟨c1,c2⟩:=hbc cs rfl
   have c1':=juf c1
   rw [jsk fun k hk hm=>c1' k hm (List.mem_append_left _ (a1 k hk))] at h3
   refine ⟨by rw [h3,hb],fun cs' hcs k hk=>?_⟩
   rw [hb] at hcs;cases hcs
   obtain ⟨b',hb'⟩:=jts c2 k hk
   have h4:=a4 k b' hb' (fun hm=>c1' k hk (List.mem_append_left _ hm)) (fun hm=>c1' k hk (List.mem_append_right _ hm))
   simp only [jhd,hb',h4]
   cases b' with
   | row e sz xs=>rw [jlj]
   | box cs' =>
    have:∀(ns:List Nat) (cs:List SV),∃cs',jjc ns (.box cs)=.box cs':=fun ns=>by
     induction ns with
     | nil=>intro cs;exact ⟨cs,rfl⟩
     | cons n ns ih=>intro cs;simp only [jjc,killB];exact ih _
    obtain ⟨c'',hc''⟩:=this ns cs'
    rw [hc'']
 refine ⟨hlk,?_,fun p=>?_⟩
 ·cases hl:lk s.l t with
  | some e=>rfl
  | none =>
   dsimp only
   have:raw C s t=lkm C.keep s.m t:=by unfold raw;rw [hl]
   rw [this] at hk
   rw [a2,jcg,hk]
 ·have hlm:lk s.l t=none→lkm C.keep s1.m t=lkm C.keep s.m t:=fun hl=>by
   have:raw C s t=lkm C.keep s.m t:=by unfold raw;rw [hl]
   rw [this] at hk
   rw [a2,jcg,hk]
  unfold gt
  rw [hlk]
  cases hl:lk s.l t with
  | none =>
   have hr:raw C s t=lkm C.keep s.m t:=by unfold raw;rw [hl]
   exact ⟨hlm hl,by rw [hr] at hsee;exact hsee⟩
  | some e =>
   obtain ⟨q,c,v⟩:=e
   have hr:raw C s t=v:=by unfold raw;rw [hl]
   dsimp only
   refine ⟨rfl,?_⟩
   split
   ·rw [hr] at hsee;exact hsee
   ·intro n hn;simp [nmV,nmA,nmC] at hn
end Go.Den

/- Draw regions, first part: an alloc whose box stands already in the memory's list; what the kernel looks at. -/
namespace Go.Den
open Go
variable {C:Ctx} {R:Rt} {G G0 G1:Gh} {st st1 st2:St} {a:Act} {w w':World} {o:Oper} {v:SV}

theorem jjq {h:List (Nat × Blk)} {n:Nat} (hn:¬ G.live n) (b:Nat × Nat) (v:Value) (ψ:Nat→Prop):∀k,Same G h (G.add n b v ψ) h k:=fun k hk=>by
 have hkn:k≠n:=fun e=>hn (e ▸ hk)
 exact ⟨.inl hk,by simp [Gh.add,hkn],by simp [Gh.add,hkn],fun e sz xs hx=>⟨xs,hx⟩⟩
theorem jmz {n:Nat} {cs:List SV} {cur:Array Value} {e:TypeId} (H:Inv C R G st a w) (hu:jwb G st.h n (.box cs)) (he:Ext w w') (hg:w'.heap[w.heap.size]? = some (.cells cur e (0,0))) (hs:w'.heap.size=w.heap.size+1) (hl:cs.length≤cur.size)
  (hc:∀(j:Nat) x,cs[j]? = some x→∃u,cur[j]? = some u∧u.oneCell'=true∧CRel R G st.h x u) :
  Inv C R (G.add n (w.heap.size,0) undef (·=w.heap.size)) st a w'∧VRel R (G.add n (w.heap.size,0) undef (·=w.heap.size)) st.h (.ptr n 0) (.pointer (some ⟨w.heap.size,0,none⟩))∧∀m ds,m≠n→jwb G st.h m ds→jwb (G.add n (w.heap.size,0) undef (·=w.heap.size)) st.h m ds:=by
 obtain ⟨hnl,hb,hfl⟩:=hu
 have H':=jtc H he
 have hsm:=jjq (G:=G) (h:=st.h) hnl (w.heap.size,0) undef (·=w.heap.size)
 have e1:∀k,k≠n→(G.add n (w.heap.size,0) undef (·=w.heap.size)).φ k=G.φ k:=fun k h=>by simp [Gh.add,h]
 have e2:(G.add n (w.heap.size,0) undef (·=w.heap.size)).φ n=(·=w.heap.size):=by simp [Gh.add]
 refine ⟨⟨H'.W,⟨fun k hk _=>?_,fun k m hk _ hm _ hkm j hj1 hj2=>?_,fun k hk _ j hj=>?_,fun k b hf=>?_⟩,fun _ _ _=>id,fun t=>?_,H'.l,H'.m⟩,⟨.inr rfl,by simp [Gh.add]⟩,fun m ds hmn ⟨h1,h2,h3⟩=>⟨fun h=>?_,h2,h3⟩⟩
 ·rcases hk with hk | rfl
  ·obtain ⟨y,h1,h2⟩:=H'.B.rel k hk id
   have hkn:k≠n:=fun e=>hnl (e ▸ hk)
   exact ⟨y,h1,jhb hsm (by simp [Gh.add,hkn]) (by simp [Gh.add,hkn]) (by simp [Gh.add,hkn]) h2⟩
  ·refine ⟨.box cs,hb,cur,e,by simp [Gh.add,hg],by simp [Gh.add],fun lo hi hlb=>?_,by simpa [Gh.add] using hl,fun j x hj=>?_⟩
   ·simp only [Gh.add,if_true] at hlb
    have:=jjg H.W hlb
    have:=H.W.size
    omega
   ·obtain ⟨u,h1,h2,h3⟩:=hc j x hj
    exact ⟨u,by simpa [Gh.add] using h1,h2,jea (fun k _=>hsm k) h3⟩
 ·have old:∀m,G.live m→G.φ m w.heap.size→False:=fun m hm h=>by have:=(H.B.mine m hm id _ h).1;omega
  rcases hk with hk | rfl<;>rcases hm with hm | rfl
  ·rw [e1 k (fun e=>hnl (e ▸ hk))] at hj1
   rw [e1 m (fun e=>hnl (e ▸ hm))] at hj2
   exact H.B.disj k m hk id hm id hkm j hj1 hj2
  ·rw [e1 k hkm] at hj1
   rw [e2] at hj2
   exact old k hk (hj2 ▸ hj1)
  ·rw [e2] at hj1
   rw [e1 m (Ne.symm hkm)] at hj2
   exact old m hm (hj1 ▸ hj2)
  ·exact hkm rfl
 ·rcases hk with hk | rfl
  ·rw [e1 k (fun e=>hnl (e ▸ hk))] at hj
   exact H'.B.mine k hk id j hj
  ·rw [e2] at hj
   exact ⟨by rw [hj,hs];omega,.inr (by rw [hj];exact H.W.size)⟩
 ·obtain ⟨h1,h2,h3⟩:=H'.B.fix k b hf
  have hkn:k≠n:=fun e=>hnl (e ▸ h1)
  exact ⟨.inl h1,by simp [Gh.add,hkn,h2],h3⟩
 ·have:=jib (st:=st) (h':=st.h) hsm (H'.slots t)
  exact this
 ·rcases h with h | h
  ·exact h1 h
  ·exact hmn h
theorem joz {n e sz:Nat} {cur:Array Value} (H:Inv C R G st a w) (hu:jwb G st.h n (.row e sz [])) (he:Ext w w') (hg:w'.heap[w.heap.size]? = some (.cells cur e (0,0))) (hs:w'.heap.size=w.heap.size+1) (hE:EOk C.P e sz) :
  Inv C R (G.add n (0,0) (.slice (some ⟨w.heap.size,0,none⟩) 0 0) (·=w.heap.size)) st a w'∧VRel R (G.add n (0,0) (.slice (some ⟨w.heap.size,0,none⟩) 0 0) (·=w.heap.size)) st.h (.own n) (.slice (some ⟨w.heap.size,0,none⟩) 0 0)∧∀m ds,m≠n→jwb G st.h m ds→jwb (G.add n (0,0) (.slice (some ⟨w.heap.size,0,none⟩) 0 0) (·=w.heap.size)) st.h m ds:=by
 obtain ⟨hnl,hb,hfl⟩:=hu
 have H':=jtc H he
 have hsm:=jjq (G:=G) (h:=st.h) hnl (0,0) (.slice (some ⟨w.heap.size,0,none⟩) 0 0) (·=w.heap.size)
 have e1:∀k,k≠n→(G.add n (0,0) (.slice (some ⟨w.heap.size,0,none⟩) 0 0) (·=w.heap.size)).φ k=G.φ k:=fun k h=>by simp [Gh.add,h]
 have e2:(G.add n (0,0) (.slice (some ⟨w.heap.size,0,none⟩) 0 0) (·=w.heap.size)).φ n=(·=w.heap.size):=by simp [Gh.add]
 have hrow:RowR w' e sz (·=w.heap.size) [] (.slice (some ⟨w.heap.size,0,none⟩) 0 0) :=
  .inr ⟨w.heap.size,0,0,_,cur,fun _ _=>undef,fun _ _ _=>False,rfl,hg,rfl,Nat.le_refl _,by simp,by simp,fun i r j d h=>by simp at h,fun _ _ _ h=>h.elim,fun _ _ _ _ _ h=>h.elim,fun i r j d h=>by simp at h⟩
 refine ⟨⟨H'.W,⟨fun k hk _=>?_,fun k m hk _ hm _ hkm j hj1 hj2=>?_,fun k hk _ j hj=>?_,fun k b hf=>?_⟩,fun _ _ _=>id,fun t=>?_,H'.l,H'.m⟩,⟨.inr rfl,by simp [Gh.add],rfl⟩,fun m ds hmn ⟨h1,h2,h3⟩=>⟨fun h=>?_,h2,h3⟩⟩
 ·rcases hk with hk | rfl
  ·obtain ⟨y,h1,h2⟩:=H'.B.rel k hk id
   have hkn:k≠n:=fun e=>hnl (e ▸ hk)
   exact ⟨y,h1,jhb hsm (by simp [Gh.add,hkn]) (by simp [Gh.add,hkn]) (by simp [Gh.add,hkn]) h2⟩
  ·refine ⟨.row e sz [],hb,by simpa [Gh.add] using hrow.x,hE.1,hE.2,fun j lo hi hj hlb=>?_⟩
   simp only [Gh.add,if_true] at hj
   subst hj
   have:=jjg H.W hlb
   have:=H.W.size
   omega
 ·have old:∀m,G.live m→G.φ m w.heap.size→False:=fun m hm h=>by have:=(H.B.mine m hm id _ h).1;omega
  rcases hk with hk | rfl<;>rcases hm with hm | rfl
  ·rw [e1 k (fun e=>hnl (e ▸ hk))] at hj1
   rw [e1 m (fun e=>hnl (e ▸ hm))] at hj2
   exact H.B.disj k m hk id hm id hkm j hj1 hj2
  ·rw [e1 k hkm] at hj1
   rw [e2] at hj2
   exact old k hk (hj2 ▸ hj1)
  ·rw [e2] at hj1
   rw [e1 m (Ne.symm hkm)] at hj2
   exact old m hm (hj1 ▸ hj2)
  ·exact hkm rfl
 ·rcases hk with hk | rfl
  ·rw [e1 k (fun e=>hnl (e ▸ hk))] at hj
   exact H'.B.mine k hk id j hj
  ·rw [e2] at hj
   exact ⟨by rw [hj,hs];omega,.inr (by rw [hj];exact H.W.size)⟩
 ·obtain ⟨h1,h2,h3⟩:=H'.B.fix k b hf
  have hkn:k≠n:=fun e=>hnl (e ▸ h1)
  exact ⟨.inl h1,by simp [Gh.add,hkn,h2],h3⟩
 ·have:=jib (st:=st) (h':=st.h) hsm (H'.slots t)
  exact this
 ·rcases h with h | h
  ·exact h1 h
  ·exact hmn h
end Go.Den

/- Draw regions, second part: the machine's own state beside den's. -/
namespace Go.Den
open Go
variable {C:Ctx} {R:Rt} {G G0 G1:Gh} {st st1 st2 σ σ1 s s1:St} {a:Act} {w w':World} {o:Oper} {v:SV} {hid hid':Nat→Prop}

structure Rel (C:Ctx) (hid:Nat→Prop) (σ s:St):Prop where
 h:σ.h=s.h
 eq:∀t,¬ hid t→lk σ.l t=lk s.l t∧lkm C.keep σ.m t=lkm C.keep s.m t
 no:∀t,hid t→lk σ.l t=none
theorem Rel.gt (H:Rel C hid σ s) {t:Nat} (ht:¬ hid t) (p:Path):Den.gt C σ p t=Den.gt C s p t:=by
 obtain ⟨h1,h2⟩:=H.eq t ht
 unfold Den.gt
 rw [h1,h2]
theorem jir (t:Nat):∀(ns:List Nat) (l l':List (Nat × Path × Bool × SV)),lk l' t=lk l t→lk (jpa ns l') t=lk (jpa ns l) t
 | [],l,l',e=>e
 | n :: ns,l,l',e=>jir t ns _ _ (by rw [jcb,jcb,e])
theorem jci (t:Nat):∀(ns:List Nat) (l:List (Nat × Path × Bool × SV)),lk l t=none→lk (jpa ns l) t=none
 | [],l,e=>e
 | n :: ns,l,e=>jci t ns _ (by rw [jcb,e];rfl)
theorem jln (ks:List Nat) (t:Nat):∀(ns:List Nat) (m m':List SV),lkm ks m' t=lkm ks m t→lkm ks (jva ns m') t=lkm ks (jva ns m) t
 | [],m,m',e=>e
 | n :: ns,m,m',e=>jln ks t ns _ _ (by rw [jdc,jdc,e])
theorem Rel.sim (H:Rel C hid σ s) (A:Sim s s1 σ σ1):Rel C hid σ1 s1:=by
 obtain ⟨ns,a1,a2,a3,a4,a5⟩:=A
 refine ⟨a5,fun t ht=>⟨?_,?_⟩,fun t ht=>?_⟩
 ·rw [a2,a4];exact jir t ns _ _ (H.eq t ht).1
 ·rw [a1,a3];exact jln _ t ns _ _ (H.eq t ht).2
 ·rw [a4];exact jci t ns _ (H.no t ht)
theorem Rel.guard {ops:Array Oper} (H:Rel C hid σ s) {g:Option (Nat × Bool)} (hg:∀j b oj t,g=some (j,b)→ops[j]? = some oj→oj.dst=some t→¬ hid t):guardOf ops σ g=guardOf ops s g:=by
 cases g with
 | none=>rfl
 | some jb =>
  obtain ⟨j,b⟩:=jb
  unfold guardOf
  dsimp only
  cases hj:ops[j]? with
  | none=>rfl
  | some oj =>
   dsimp only
   cases ht:oj.dst with
   | none=>rfl
   | some t=>dsimp only;rw [(H.eq t (hg j b oj t rfl hj ht)).1]
theorem Rel.pt (H:Rel C hid σ s) {p:Path} {c:Bool} {d:Option Nat} (hd:∀t,d=some t→¬ hid t) (hσ:σ.m.length=C.keep.length) (hs:s.m.length=C.keep.length):Rel C hid (pt C σ p c d v) (Den.pt C s p c d v):=by
 cases d with
 | none=>exact H
 | some t =>
  have ht:=hd t rfl
  unfold Den.pt
  dsimp only
  by_cases hk:isIn C.keep t=true
  ·rw [if_pos hk,if_pos hk]
   have key:∀x,Rel C hid { σ with m:=stm C.keep σ.m t x } { s with m:=stm C.keep s.m t x }:=fun x=>⟨H.h,fun u hu=>⟨(H.eq u hu).1,by
    show lkm C.keep (stm C.keep σ.m t x) u=lkm C.keep (stm C.keep s.m t x) u
    rw [jac hk hσ u,jac hk hs u,(H.eq u hu).2]⟩,H.no⟩
   split<;>exact key _
  ·rw [if_neg hk,if_neg hk]
   refine ⟨H.h,fun u hu=>⟨?_,(H.eq u hu).2⟩,fun u hu=>?_⟩
   ·simp only [lk];rw [(H.eq u hu).1]
   ·simp only [lk]
    rw [if_neg (fun e=>ht (by rw [e];exact hu))]
    exact H.no u hu
theorem Rel.ahead (H:Rel C hid σ s) {p:Path} {c:Bool} {t:Nat} (hn:lk σ.l t=none) (hs:s.m.length=C.keep.length):Rel C (fun u=>hid u∨u=t) σ (Den.pt C s p c (some t) v):=by
 unfold Den.pt
 dsimp only
 by_cases hk:isIn C.keep t=true
 ·rw [if_pos hk]
  have key:∀x,Rel C (fun u=>hid u∨u=t) σ { s with m:=stm C.keep s.m t x }:=fun x=>⟨H.h,fun u hu=>⟨(H.eq u (fun h=>hu (.inl h))).1,by
   show _=lkm C.keep (stm C.keep s.m t x) u
   rw [jac hk hs u,if_neg (fun e=>hu (.inr e))]
   exact (H.eq u (fun h=>hu (.inl h))).2⟩,fun u hu=>by rcases hu with hu | rfl;exact H.no u hu;exact hn⟩
  split<;>exact key _
 ·rw [if_neg hk]
  refine ⟨H.h,fun u hu=>⟨?_,(H.eq u (fun h=>hu (.inl h))).2⟩,fun u hu=>by rcases hu with hu | rfl;exact H.no u hu;exact hn⟩
  simp only [lk]
  rw [if_neg (fun e=>hu (.inr e.symm)),(H.eq u (fun h=>hu (.inl h))).1]
def Holds (C:Ctx) (s:St) (t:Nat) (p:Path) (c:Bool) (x:SV):Prop :=
 (isIn C.keep t=false∧lk s.l t=some (p,c,x))∨(isIn C.keep t=true∧lk s.l t=none∧lkm C.keep s.m t=x∧(p≠[]→x=.undef))
theorem Rel.catch_up (H:Rel C hid σ s) {p:Path} {c:Bool} {t:Nat} {x:SV} (hx:Holds C s t p c x) (hn:lk σ.l t=none) (hσ:σ.m.length=C.keep.length) (hk2:isIn C.keep t=false→lkm C.keep s.m t=.undef):Rel C (fun u=>hid u∧u≠t) (Den.pt C σ p c (some t) x) s:=by
 unfold Den.pt
 dsimp only
 have other:∀u,¬ (hid u∧u≠t)→u≠t→¬ hid u:=fun u h1 h2 h3=>h1 ⟨h3,h2⟩
 rcases hx with ⟨hk,hl⟩ | ⟨hk,hl,hm,hp⟩
 ·rw [if_neg (by rw [hk];simp)]
  refine ⟨H.h,fun u hu=>?_,fun u hu=>?_⟩
  ·simp only [lk]
   by_cases hut:u=t
   ·subst hut
    rw [if_pos rfl]
    exact ⟨hl.symm,by rw [jug hk,jug hk]⟩
   ·rw [if_neg (Ne.symm hut)]
    exact H.eq u (other u hu hut)
  ·simp only [lk]
   rw [if_neg (Ne.symm hu.2)]
   exact H.no u hu.1
 ·rw [if_pos hk]
  have key:Rel C (fun u=>hid u∧u≠t) { σ with m:=stm C.keep σ.m t x } s:=⟨H.h,fun u hu=>by
   show lk σ.l u=_∧lkm C.keep (stm C.keep σ.m t x) u=_
   rw [jac hk hσ u]
   by_cases hut:u=t
   ·subst hut;rw [if_pos rfl];exact ⟨by rw [hn,hl],hm.symm⟩
   ·rw [if_neg hut];exact H.eq u (other u hu hut),fun u hu=>H.no u hu.1⟩
  split
  ·exact key
  ·rename_i hne
   have:=hp (fun e=>hne e)
   rw [this] at key
   exact key
end Go.Den

/- Draw regions, third part: what the kernel looks at. -/
namespace Go.Den
open Go

def jpf (ms:List Nat):List Edge→Nat
 | []=>0
 | e :: es=>if Region.binds .any e then (2 ^ e.on ||| ms.getD e.on 0) ||| jpf ms es else jpf ms es
def jnb:List Nat→List Oper→List Nat
 | ms,[]=>ms
 | ms,o :: os=>jnb (ms++[jpf ms o.after.toList]) os
def bef (ms:List Nat) (i j:Nat):Bool:=(ms.getD i 0).testBit j
theorem jgf {ms:List Nat}:∀{es:List Edge} {j:Nat},(jpf ms es).testBit j=true↔∃e∈es,Region.binds .any e=true∧(j=e.on∨(ms.getD e.on 0).testBit j=true)
 | [],j=>by simp [jpf]
 | e :: es,j=>by
  simp only [jpf,List.mem_cons]
  split
  ·rename_i hb
   rw [Nat.testBit_or,Nat.testBit_or,Nat.testBit_two_pow,Bool.or_eq_true,Bool.or_eq_true,jgf]
   constructor
   ·rintro ((h | h) | ⟨e',h1,h2⟩)
    ·exact ⟨e,.inl rfl,hb,.inl (of_decide_eq_true h).symm⟩
    ·exact ⟨e,.inl rfl,hb,.inr h⟩
    ·exact ⟨e',.inr h1,h2⟩
   ·rintro ⟨e',rfl | h1,h2,h3⟩
    ·rcases h3 with h3 | h3
     ·exact .inl (.inl (by simp [h3]))
     ·exact .inl (.inr h3)
    ·exact .inr ⟨e',h1,h2,h3⟩
  ·rename_i hb
   rw [jgf]
   constructor
   ·rintro ⟨e',h1,h2⟩;exact ⟨e',.inr h1,h2⟩
   ·rintro ⟨e',rfl | h1,h2,h3⟩
    ·exact absurd h2 hb
    ·exact ⟨e',h1,h2,h3⟩
theorem jee:∀(os:List Oper) (ms:List Nat),∃r,jnb ms os=ms++r∧r.length=os.length∧∀(i:Nat) o,os[i]? = some o→r[i]? = some (jpf (ms++r.take i) o.after.toList)
 | [],ms=>⟨[],by simp [jnb],rfl,fun i o h=>by simp at h⟩
 | o :: os,ms=>by
  obtain ⟨r,h1,h2,h3⟩:=jee os (ms++[jpf ms o.after.toList])
  refine ⟨jpf ms o.after.toList :: r,by simp [jnb,h1],by simp [h2],fun i q hq=>?_⟩
  cases i with
  | zero=>simp at hq;subst hq;simp
  | succ i=>simp at hq;have:=h3 i q hq;simpa using this
theorem bef_closed {ops:List Oper} {X:Nat→Prop} (hX:∀i o,X i→ops[i]? = some o→∀e∈o.after.toList,Region.binds .any e=true→X e.on):∀(i j:Nat),X i→bef (jnb [] ops) i j=true→X j:=by
 obtain ⟨r,h1,h2,h3⟩:=jee ops []
 simp only [List.nil_append] at h1 h3
 intro i
 induction i using Nat.strongRecOn with
 | _ i ih =>
  intro j hi hb
  unfold bef at hb
  rw [h1] at hb
  cases ho:ops[i]? with
  | none =>
   have:r[i]? = none:=by rw [List.getElem?_eq_none];rw [List.getElem?_eq_none_iff] at ho;omega
   rw [List.getD_eq_getElem?_getD,this] at hb
   simp at hb
  | some o =>
   rw [List.getD_eq_getElem?_getD,h3 i o ho] at hb
   simp only [Option.getD_some,jgf] at hb
   obtain ⟨e,he,hbind,hj⟩:=hb
   have hon:=hX i o hi ho e he hbind
   rcases hj with rfl | hj
   ·exact hon
   ·by_cases hlt:e.on < i
    ·refine ih e.on hlt j hon ?_
     unfold bef
     rw [h1]
     rw [List.getD_eq_getElem?_getD,List.getElem?_take,if_pos hlt] at hj
     rw [List.getD_eq_getElem?_getD]
     exact hj
    ·rw [List.getD_eq_getElem?_getD,List.getElem?_take,if_neg hlt] at hj
     simp at hj
theorem joy {ops:List Oper} {i:Nat} {o:Oper} (ho:ops[i]? = some o) {e:Edge} (he:e∈o.after.toList) (hb:Region.binds .any e=true):bef (jnb [] ops) i e.on=true:=by
 obtain ⟨r,h1,h2,h3⟩:=jee ops []
 simp only [List.nil_append] at h1 h3
 unfold bef
 rw [h1,List.getD_eq_getElem?_getD,h3 i o ho]
 simp only [Option.getD_some,jgf]
 exact ⟨e,he,hb,.inl rfl⟩

def hasD:List (Nat × Nat)→Nat→Nat→Bool
 | [],_,_=>false
 | (i,c) :: r,j,k=>if i=j then (if c=k then true else hasD r j k) else hasD r j k
def anyD:List (Nat × Nat)→Nat→Bool
 | [],_=>false
 | (i,_) :: r,j=>if i=j then true else anyD r j
def allD (p:Nat→Nat→Bool):List (Nat × Nat)→Bool
 | []=>true
 | (i,c) :: r=>p i c&&allD p r
def job:List (Nat × Nat × List Nat)→Nat→Bool
 | [],_=>false
 | (i,c,_) :: r,j=>if i=j then (if c=1 then true else job r j) else job r j
def jbl (ms:List Nat) (i k:Nat) (rest:List (Nat × Nat × List Nat)) (t:Nat):Nat→List Oper→Bool
 | _,[]=>true
 | j,o :: os=>(match o.dst with
  | some d=>if d=t then (bef ms i j||(bef ms j i&&job rest j)||(decide (i=j)&&decide (k=1))) else true
  | none=>true)&&jbl ms i k rest t (j+1) os
def jbm (ms:List Nat) (i k:Nat) (rest:List (Nat × Nat × List Nat)) (ops:List Oper):List Nat→Bool
 | []=>true
 | t :: ts=>jbl ms i k rest t 0 ops&&jbm ms i k rest ops ts
def subD (m:Nat) (done:List (Nat × Nat)):Nat→Bool
 | 0=>true
 | j+1=>(if m.testBit j then anyD done j else true)&&subD m done j
def jnp (o:Oper):Bool:=match o.op,o.guard,o.dst with | .alloc _,none,some _=>true | .buildSlice _ 0 parts,none,some _=>parts.isEmpty | _,_,_=>false
def chkD (ops:Array Oper) (ms:List Nat):List (Nat × Nat)→List (Nat × Nat × List Nat)→Bool
  | done,[]=>(List.range ops.size).all (anyD done)
  | done,(i,k,js) :: r=>(match ops[i]? with
    | none=>false
    | some o=>!anyD done i&&subD (ms.getD i 0) done ops.size&&jbm ms i k r ops.toList (o.looksAt ops) &&
      (match k with
       | 0=>allD (fun j c=>decide (c≠1)||bef ms i j) done
       | 1=>allD (fun j c=>decide (c≠1)||bef ms i j) done&&allD (fun j c=>decide (c≠0)||bef ms i j||isIn js j) done&&js.all (fun j=>hasD done j 0)
       | 2=>jnp o&&decide (ms.getD i 0=0)&&allD (fun _ c=>decide (c=2)) done
       | _=>false)&&chkD ops ms ((i,k) :: done) r)
def jtl (n:Nat):List Edge→Bool
 | []=>true
 | e :: es=>(!Region.binds .any e||decide (e.on < n))&&jtl n es
def jkj (n:Nat):List Oper→Bool
 | []=>true
 | o :: os=>jtl n o.after.toList&&jkj n os
theorem jrk {n:Nat}:∀{es:List Edge},jtl n es=true→∀e∈es,Region.binds .any e=true→e.on < n
 | [],_,e,he,_=>by simp at he
 | x :: es,h,e,he,hb=>by
  simp only [jtl,Bool.and_eq_true] at h
  rcases List.mem_cons.1 he with rfl | he
  ·have:=h.1;rw [hb] at this;simpa using this
  ·exact jrk h.2 e he hb
theorem jpj {n:Nat}:∀{os:List Oper},jkj n os=true→∀(i:Nat) o,os[i]? = some o→∀e∈o.after.toList,Region.binds .any e=true→e.on < n
 | [],_,i,o,h=>by simp at h
 | x :: os,h,i,o,ho=>by
  simp only [jkj,Bool.and_eq_true] at h
  cases i with
  | zero=>simp at ho;subst ho;exact jrk h.1
  | succ i=>exact jpj h.2 i o (by simpa using ho)
def jfg (n:Nat) (ops:Array Oper) (order:List (Nat × Nat × List Nat)):Bool:=jbb n [] ops.toList&&jkj ops.size ops.toList&&chkD ops (jnb [] ops.toList) [] order
end Go.Den

/- Draw regions, fourth part: what holds between den and the machine; den goes ahead. -/
namespace Go.Den
open Go
variable {C:Ctx} {R:Rt} {G G0 G1:Gh} {st st1 st2 σ σ1 s s1:St} {a:Act} {w w':World} {o:Oper} {v:SV} {ops:Array Oper} {ms:List Nat}

theorem jda (i k:Nat) (r:List (Nat × Nat)) (j:Nat):anyD ((i,k) :: r) j=true↔i=j∨anyD r j=true:=by
 simp only [anyD];split<;>simp [*]
theorem jja (i k:Nat) (r:List (Nat × Nat)) (j c:Nat):hasD ((i,k) :: r) j c=true↔(i=j∧k=c)∨hasD r j c=true:=by
 simp only [hasD]
 by_cases h:i=j
 ·by_cases h':k=c<;>simp [h,h']
 ·simp [h]
theorem jpe:∀{r:List (Nat × Nat)} {j c:Nat},hasD r j c=true→anyD r j=true
 | [],_,_,h=>by simp [hasD] at h
 | (i,k) :: r,j,c,h=>by
  rw [jja] at h
  rw [jda]
  rcases h with h | h
  ·exact .inl h.1
  ·exact .inr (jpe h)
theorem jog {p:Nat→Nat→Bool}:∀{r:List (Nat × Nat)} {j c:Nat},allD p r=true→hasD r j c=true→p j c=true
 | [],_,_,_,h=>by simp [hasD] at h
 | (i,k) :: r,j,c,ha,h=>by
  simp only [allD,Bool.and_eq_true] at ha
  rw [jja] at h
  rcases h with ⟨rfl,rfl⟩ | h
  ·exact ha.1
  ·exact jog ha.2 h
theorem jfs {m:Nat} {done:List (Nat × Nat)}:∀{n j:Nat},subD m done n=true→m.testBit j=true→j < n→anyD done j=true
 | 0,j,_,_,h=>by omega
 | n+1,j,hs,hb,h=>by
  simp only [subD,Bool.and_eq_true] at hs
  by_cases e:j=n
  ·subst e;rw [if_pos hb] at hs;exact hs.1
  ·exact jfs hs.2 hb (by omega)
structure Chk (ops:Array Oper) (ms:List Nat) (done:List (Nat × Nat)) (i k:Nat) (js:List Nat) (r:List (Nat × Nat × List Nat)) (o:Oper):Prop where
 ho:ops[i]? = some o
 new:anyD done i=false
 sub:∀j,j < ops.size→bef ms i j=true→anyD done j=true
 rd:∀t∈o.looksAt ops,∀j oj,ops[j]? = some oj→oj.dst=some t→bef ms i j=true∨(bef ms j i=true∧job r j=true)∨(i=j∧k=1)
 cls:k=0∨k=1∨k=2
 turns:k≠2→∀j,hasD done j 1=true→bef ms i j=true
 again:k=1→∀j,hasD done j 0=true→bef ms i j=true∨j∈js
 alloc:k=2→jnp o=true∧∀j c,hasD done j c=true→c=2
 next:chkD ops ms ((i,k) :: done) r=true
theorem jhm {i k:Nat} {rest:List (Nat × Nat × List Nat)} {t:Nat}:∀{os:List Oper} {j:Nat},jbl ms i k rest t j os=true→∀(m:Nat) oj,os[m]? = some oj→oj.dst=some t→bef ms i (j+m)=true∨(bef ms (j+m) i=true∧job rest (j+m)=true)∨(i=j+m∧k=1)
 | [],j,_,m,oj,h,_=>by simp at h
 | o :: os,j,hr,m,oj,h,hd=>by
  simp only [jbl,Bool.and_eq_true] at hr
  cases m with
  | zero =>
   simp at h
   subst h
   have h1:=hr.1
   rw [hd] at h1
   simp only [if_true,Bool.or_eq_true,Bool.and_eq_true,decide_eq_true_eq] at h1
   rcases h1 with (h1 | h1) | h1
   ·exact .inl h1
   ·exact .inr (.inl h1)
   ·exact .inr (.inr h1)
  | succ m =>
   have:=jhm hr.2 m oj (by simpa using h) hd
   rw [show j+1+m=j+(m+1) by omega] at this
   exact this
theorem jal {i k:Nat} {rest:List (Nat × Nat × List Nat)} {os:List Oper}:∀{ts:List Nat},jbm ms i k rest os ts=true→∀t∈ts,jbl ms i k rest t 0 os=true
 | [],_,t,ht=>by simp at ht
 | x :: ts,h,t,ht=>by
  simp only [jbm,Bool.and_eq_true] at h
  rcases List.mem_cons.1 ht with rfl | ht
  ·exact h.1
  ·exact jal h.2 t ht
theorem jod {done:List (Nat × Nat)} {i k:Nat} {js:List Nat} {r:List (Nat × Nat × List Nat)} (h:chkD ops ms done ((i,k,js) :: r)=true):∃o,Chk ops ms done i k js r o:=by
 simp only [chkD] at h
 cases ho:ops[i]? with
 | none=>rw [ho] at h;cases h
 | some o =>
  rw [ho] at h
  simp only [Bool.and_eq_true,Bool.not_eq_true'] at h
  obtain ⟨⟨⟨⟨h1,h2⟩,h3⟩,h4⟩,h5⟩:=h
  refine ⟨o,ho,h1,fun j hj hb=>jfs h2 hb hj,fun t ht j oj hj hd=>?_,?_,?_,?_,?_,h5⟩
  ·have:=jhm (jal h3 t ht) j oj (by simpa using hj) hd
   simpa using this
  ·rcases k with _ | _ | _ | k
   ·exact .inl rfl
   ·exact .inr (.inl rfl)
   ·exact .inr (.inr rfl)
   ·cases h4
  ·intro hk j hj
   rcases k with _ | _ | _ | k
   ·have:=jog h4 hj;simpa using this
   ·simp only [Bool.and_eq_true] at h4
    have:=jog h4.1.1 hj;simpa using this
   ·exact absurd rfl hk
   ·cases h4
  ·rintro rfl j hj
   simp only [Bool.and_eq_true] at h4
   have:=jog h4.1.2 hj
   simp at this
   rcases this with h | h
   ·exact .inl h
   ·exact .inr (jpc.1 h)
  ·rintro rfl
   simp only [Bool.and_eq_true,decide_eq_true_eq] at h4
   exact ⟨h4.1.1,fun j c hj=>by have:=jog h4.2 hj;simpa using this⟩
theorem jvf:∀{r:List (Nat × Nat × List Nat)} {done:List (Nat × Nat)} {j:Nat},job r j=true→chkD ops ms done r=true→anyD done j=false
 | [],_,_,h,_=>by simp [job] at h
 | (i,k,js) :: r,done,j,h,hc=>by
  obtain ⟨o,hc⟩:=jod hc
  simp only [job] at h
  have tl:job r j=true→anyD done j=false:=fun h=>by
   have:=jvf h hc.next
   by_cases e:anyD done j=true
   ·rw [(jda i k done j).2 (.inr e)] at this;cases this
   ·simpa using e
  split at h
  ·rename_i e
   subst e
   split at h
   ·exact hc.new
   ·exact tl h
  ·exact tl h
def jgi (n:Nat) (ms:List Nat):List (Nat × Nat)→Prop
 | []=>True
 | (i,_) :: r=>(∀j,j < n→bef ms i j=true→anyD r j=true)∧jgi n ms r
theorem jgi.closed {n:Nat}:∀{done:List (Nat × Nat)},jgi n ms done→∀i j,anyD done i=true→j < n→bef ms i j=true→anyD done j=true
 | [],_,i,j,h,_,_=>by simp [anyD] at h
 | (i0,k) :: r,hw,i,j,h,hj,hb=>by
  rw [jda] at h ⊢
  rcases h with rfl | h
  ·exact .inr (hw.1 j hj hb)
  ·exact .inr (hw.2.closed i j h hj hb)
theorem jgi.first {n:Nat} {X:Nat→Prop}:∀{done:List (Nat × Nat)},jgi n ms done→(∃i,anyD done i=true∧¬ X i)→∃i,anyD done i=true∧¬ X i∧∀j,j < n→bef ms i j=true→X j
 | [],_,⟨i,h,_⟩=>by simp [anyD] at h
 | (i0,k) :: r,hw,⟨i,h,hx⟩=>by
  by_cases hr:∃i,anyD r i=true∧¬ X i
  ·obtain ⟨i',h1,h2,h3⟩:=hw.2.first hr
   exact ⟨i',(jda _ _ _ _).2 (.inr h1),h2,h3⟩
  ·have all:∀i,anyD r i=true→X i:=fun i hi=>Classical.byContradiction fun h=>hr ⟨i,hi,h⟩
   rw [jda] at h
   rcases h with rfl | h
   ·exact ⟨i0,(jda _ _ _ _).2 (.inl rfl),hx,fun j hj hb=>all j (hw.1 j hj hb)⟩
   ·exact absurd (all i h) hx

theorem jqi {n:Nat}:∀{os:List Oper} {seen:List Nat},jbb n seen os=true→(∀(i:Nat) o t,os[i]? = some o→o.dst=some t→t < n∧t ∉ seen)∧∀(i j:Nat) o o' t,os[i]? = some o→os[j]? = some o'→o.dst=some t→o'.dst=some t→i=j
 | [],seen,_=>⟨fun i o t h=>by simp at h,fun i j o o' t h=>by simp at h⟩
 | x :: os,seen,h=>by
  obtain ⟨h1,h2⟩:=jdg h
  obtain ⟨h3,h4⟩:=jqi h2
  have tail:∀(i:Nat) o t,os[i]? = some o→o.dst=some t→t < n∧t ∉ seen∧x.dst≠some t:=fun i o t hi ht=>by
   obtain ⟨h5,h6⟩:=h3 i o t hi ht
   cases hx:x.dst with
   | none=>rw [hx] at h6;exact ⟨h5,h6,by simp⟩
   | some d=>rw [hx] at h6;exact ⟨h5,fun h=>h6 (by simp [h]),fun e=>h6 (by cases e;simp)⟩
  refine ⟨fun i o t hi ht=>?_,fun i j o o' t hi hj ht ht'=>?_⟩
  ·cases i with
   | zero=>simp at hi;subst hi;exact h1 t ht
   | succ i=>have:=tail i o t (by simpa using hi) ht;exact ⟨this.1,this.2.1⟩
  ·cases i with
   | zero =>
    cases j with
    | zero=>rfl
    | succ j=>simp at hi;subst hi;exact absurd ht (tail j o' t (by simpa using hj) ht').2.2
   | succ i =>
    cases j with
    | zero=>simp at hj;subst hj;exact absurd ht' (tail i o t (by simpa using hi) ht).2.2
    | succ j=>rw [h4 i j o o' t (by simpa using hi) (by simpa using hj) ht ht']

theorem Rel.congr {hid hid':Nat→Prop} (H:Rel C hid σ s) (h:∀t,hid' t↔hid t):Rel C hid' σ s:=⟨H.h,fun t ht=>H.eq t (fun h'=>ht ((h t).2 h')),fun t ht=>H.no t ((h t).1 ht)⟩
def Hid (ops:Array Oper) (X:Nat→Prop) (done:List (Nat × Nat)) (t:Nat):Prop:=∃i o,anyD done i=true∧¬ X i∧ops[i]? = some o∧o.dst=some t
theorem pt_h (st:St) (p:Path) (c:Bool) (d:Option Nat) (v:SV):(pt C st p c d v).h=st.h:=by
 unfold pt
 split
 ·rfl
 ·split
  ·split<;>rfl
  ·rfl
theorem pt_m (st:St) (p:Path) (c:Bool) (d:Option Nat) (v:SV):(pt C st p c d v).m.length=st.m.length:=by
 unfold pt
 split
 ·rfl
 ·split
  ·split<;>simp [jvl]
  ·rfl
theorem jgc {p:Path} {c:Bool} {d:Option Nat} {t:Nat} (ht:d≠some t) (hs:st.m.length=C.keep.length):lk (pt C st p c d v).l t=lk st.l t∧lkm C.keep (pt C st p c d v).m t=lkm C.keep st.m t:=by
 unfold pt
 split
 ·exact ⟨rfl,rfl⟩
 ·rename_i d
  have hd:t≠d:=fun e=>ht (by rw [e])
  split
  ·rename_i hk
   split<;>exact ⟨rfl,by dsimp only;rw [jac hk hs,if_neg hd]⟩
  ·refine ⟨?_,rfl⟩
   simp only [lk]
   rw [if_neg (Ne.symm hd)]
theorem jkt {t:Nat} (h1:lk st1.l t=lk st.l t) (h2:lkm C.keep st1.m t=lkm C.keep st.m t) (p:Path):gt C st1 p t=gt C st p t:=by
 unfold gt;rw [h1,h2]
theorem jxd {t:Nat} (h1:lk st1.l t=lk st.l t) (h2:lkm C.keep st1.m t=lkm C.keep st.m t) (p:Path) (c:Bool):holdsV C st1 t p c=holdsV C st t p c:=by
 unfold holdsV;rw [h1,h2]
theorem jsh {g:Option (Nat × Bool)} (h:∀j b oj t,g=some (j,b)→ops[j]? = some oj→oj.dst=some t→lk st1.l t=lk st.l t):guardOf ops st1 g=guardOf ops st g:=by
 cases g with
 | none=>rfl
 | some jb =>
  obtain ⟨j,b⟩:=jb
  unfold guardOf
  dsimp only
  cases hj:ops[j]? with
  | none=>rfl
  | some oj =>
   dsimp only
   cases ht:oj.dst with
   | none=>rfl
   | some t=>dsimp only;rw [h j b oj t rfl hj ht]
theorem jya {t:Nat} (h:Operand.tmp t∈o.op.operands.toList):t∈o.looksAt ops:=by
 unfold Oper.looksAt
 rw [List.mem_append]
 refine .inl (List.mem_filterMap.2 ⟨.tmp t,h,rfl⟩)
theorem jve {j:Nat} {b:Bool} {oj:Oper} {t:Nat} (hg:o.guard=some (j,b)) (hj:ops[j]? = some oj) (ht:oj.dst=some t):t∈o.looksAt ops:=by
 unfold Oper.looksAt
 rw [List.mem_append]
 refine .inr ?_
 simp [hg,hj,ht]
theorem jlm {i:Nat} (hh:st1.h=st.h) (h:∀o t,ops[i]? = some o→t∈o.looksAt ops∨o.dst=some t→lk st1.l t=lk st.l t∧lkm C.keep st1.m t=lkm C.keep st.m t) (H:again C ops st i):again C ops st1 i:=by
 unfold again at H ⊢
 cases ho:ops[i]? with
 | none=>rw [ho] at H;exact H
 | some o =>
  rw [ho] at H
  dsimp only at H ⊢
  have e1:guardOf ops st1 o.guard=guardOf ops st o.guard:=jsh fun j b oj t hg hj ht=>(h o t ho (.inl (jve hg hj ht))).1
  have e2:∀p,light C st1 p o.op=light C st p o.op:=fun p=>jye hh fun t ht p=>jkt (h o t ho (.inl (jya ht))).1 (h o t ho (.inl (jya ht))).2 p
  rw [e1]
  cases hg:guardOf ops st o.guard with
  | none=>rw [hg] at H;exact H
  | some pc =>
   obtain ⟨p,c⟩:=pc
   rw [hg] at H
   dsimp only at H ⊢
   rw [e2]
   cases hd:o.dst with
   | none=>rw [hd] at H;exact H
   | some t =>
    rw [hd] at H
    dsimp only at H ⊢
    obtain ⟨e3,e4⟩:=h o t ho (.inr hd)
    rw [jxd e3 e4]
    exact H
theorem jeq {p:Path} {c:Bool} {t:Nat} (hs:st.m.length=C.keep.length) (hn:isIn C.keep t=true→lk st.l t=none):∃x,holdsV C (pt C st p c (some t) v) t p c=some x∧(x=.undef∨x=v):=by
 unfold pt holdsV
 dsimp only
 by_cases hk:isIn C.keep t=true
 ·simp only [hk,if_true]
  cases p with
  | nil=>dsimp only;rw [hn hk];dsimp only;rw [jac hk hs,if_pos rfl];exact ⟨v,rfl,.inr rfl⟩
  | cons q p=>dsimp only;rw [hn hk];dsimp only;rw [jac hk hs,if_pos rfl];exact ⟨.undef,rfl,.inl rfl⟩
 ·simp only [hk]
  simp only [Bool.false_eq_true,if_false,lk,if_true,and_self]
  exact ⟨v,rfl,.inr rfl⟩
end Go.Den

/- Draw regions, fifth part: den goes ahead up to the next turn. -/
namespace Go.Den
open Go
variable {C:Ctx} {R:Rt} {G G0 G1:Gh} {st st1 st2 σ σ1 s s1:St} {a:Act} {w w':World} {o:Oper} {v:SV} {ops:Array Oper} {ms:List Nat} {X:Nat→Prop}

inductive NewK (C:Ctx) (o:Oper) (d:Nat):Blk→SV→Prop
 | al (t:TypeId) (zs:List D) (h1:o.op=.alloc t) (h2:(tyOf C.P t).zeros=some zs):NewK C o d (.box (svZs zs)) (.ptr (nm d 0) 0)
 | bs (t el:TypeId) (zs:List D) (h1:o.op=.buildSlice t 0 #[]) (h2:tyOf C.P t=.sl el) (h3:elz C el=some zs):NewK C o d (.row el zs.length []) (.own (nm d 0))
theorem NewK.bare {d:Nat} {b:Blk} {x0:SV} (h:NewK C o d b x0):jiv b:=by
 cases h with
 | bs=>trivial
 | al t zs _ _ =>
  intro c hc
  have:∀(zs:List D) (c:SV),c∈svZs zs→nmO c=none:=fun zs=>by
   induction zs with
   | nil=>intro c hc;simp [svZs] at hc
   | cons z zs ih =>
    intro c hc
    simp only [svZs,List.mem_cons] at hc
    rcases hc with rfl | hc
    ·unfold svZ;split<;>rfl
    ·exact ih c hc
  exact this zs c hc
def Waits (C:Ctx) (ops:Array Oper) (G:Gh) (σ s:St) (i:Nat):Prop :=
 ∃o d b x0,ops[i]? = some o∧o.guard=none∧o.dst=some d∧NewK C o d b x0∧jwb G σ.h (nm d 0) b∧∃x,holdsV C s d [] true=some x∧(x=x0∨x=.undef)
structure Mid (C:Ctx) (R:Rt) (ops:Array Oper) (ms:List Nat) (n:Nat) (X:Nat→Prop) (done:List (Nat × Nat)) (suf:List (Nat × Nat × List Nat)) (s σ:St) (G:Gh) (a:Act) (w:World):Prop where
 dst:jbb n [] ops.toList=true
 chk:chkD ops ms done suf=true
 wf:jgi ops.size ms done
 dx:∀i,X i→anyD done i=true
 cl:∀i j,X i→bef ms i j=true→X j
 tx:∀i,hasD done i 1=true→X i
 kk:∀i,anyD done i=true→hasD done i 0=true∨hasD done i 1=true∨hasD done i 2=true
 rd:∀i o t j oj,anyD done i=true→¬ X i→ops[i]? = some o→t∈o.looksAt ops→ops[j]? = some oj→oj.dst=some t→bef ms i j=true∨(bef ms j i=true∧job suf j=true)
 rel:Rel C (Hid ops X done) σ s
 ag:∀i,hasD done i 0=true→¬ X i→again C ops s i
 al:∀i,hasD done i 2=true→¬ X i→Waits C ops G σ s i
 inv:Inv C R G σ a w
 sm:s.m.length=C.keep.length
 lx:∀t,(lk σ.l t).isSome=true→(∃i o,X i∧ops[i]? = some o∧o.dst=some t)∧isIn C.keep t=false
 ls:∀t,(lk s.l t).isSome=true→isIn C.keep t=false
 sz:a.tmps.size=n

theorem Mid.one {n:Nat} {done:List (Nat × Nat)} {suf:List (Nat × Nat × List Nat)} (M:Mid C R ops ms n X done suf s σ G a w) {i j:Nat} {o o':Oper} {t:Nat} (h1:ops[i]? = some o) (h2:ops[j]? = some o') (h3:o.dst=some t) (h4:o'.dst=some t):i=j :=
 (jqi M.dst).2 i j o o' t (by simpa using h1) (by simpa using h2) h3 h4
theorem Mid.lt {n:Nat} {done:List (Nat × Nat)} {suf:List (Nat × Nat × List Nat)} (M:Mid C R ops ms n X done suf s σ G a w) {i:Nat} {o:Oper} {t:Nat} (h1:ops[i]? = some o) (h3:o.dst=some t):t < a.tmps.size:=by
 rw [M.sz];exact ((jqi M.dst).1 i o t (by simpa using h1) h3).1
theorem Mid.notX {n:Nat} {done:List (Nat × Nat)} {suf:List (Nat × Nat × List Nat)} (M:Mid C R ops ms n X done suf s σ G a w) {i:Nat} (h:anyD done i=false):¬ X i:=fun hx=>by rw [M.dx i hx] at h;cases h
theorem joc {α:Type} {xs:Array α} {i:Nat} {x:α} (h:xs[i]? = some x):i < xs.size:=by
 have:=Array.getElem?_eq_some_iff.1 h
 exact this.1
theorem Mid.stays {n:Nat} {done:List (Nat × Nat)} {suf:List (Nat × Nat × List Nat)} (M:Mid C R ops ms n X done suf s σ G a w) {i i' k:Nat} {js:List Nat} {r:List (Nat × Nat × List Nat)} {o:Oper} (hsuf:suf=(i,k,js) :: r) (hk:k≠1) (K:Chk ops ms done i k js r o) (h1:anyD done i'=true) (h2:¬ X i') :
  ∀o' t,ops[i']? = some o'→t∈o'.looksAt ops∨o'.dst=some t→o.dst≠some t:=by
 intro o' t ho' ht hd
 rcases ht with ht | ht
 ·rcases M.rd i' o' t i o h1 h2 ho' ht K.ho hd with hb | ⟨_,hb⟩
  ·have:=M.wf.closed i' i h1 (joc K.ho) hb
   rw [K.new] at this;cases this
  ·rw [hsuf] at hb
   simp only [job,if_true,if_neg hk] at hb
   have:=jvf hb K.next
   rw [(jda i k done i).2 (.inl rfl)] at this;cases this
 ·have:=M.one ho' K.ho ht hd
  subst this
  rw [K.new] at h1;cases h1
theorem Mid.rd_next {n:Nat} {done:List (Nat × Nat)} {suf:List (Nat × Nat × List Nat)} (M:Mid C R ops ms n X done suf s σ G a w) {i k:Nat} {js:List Nat} {r:List (Nat × Nat × List Nat)} {o:Oper} (hsuf:suf=(i,k,js) :: r) (hk:k≠1) (K:Chk ops ms done i k js r o) :
  ∀i' o' t j oj,anyD ((i,k) :: done) i'=true→¬ X i'→ops[i']? = some o'→t∈o'.looksAt ops→ops[j]? = some oj→oj.dst=some t→bef ms i' j=true∨(bef ms j i'=true∧job r j=true):=by
 intro i' o' t j oj h1 h2 ho' ht hj hd
 rw [jda] at h1
 rcases h1 with rfl | h1
 ·rw [K.ho] at ho'
  cases ho'
  rcases K.rd t ht j oj hj hd with h | h | h
  ·exact .inl h
  ·exact .inr h
  ·exact absurd h.2 hk
 ·rcases M.rd i' o' t j oj h1 h2 ho' ht hj hd with h | ⟨h,h'⟩
  ·exact .inl h
  ·rw [hsuf] at h'
   simp only [job] at h'
   simp only [if_neg hk,ite_self] at h'
   exact .inr ⟨h,h'⟩

theorem jvm {done:List (Nat × Nat)} {i k:Nat} (ho:ops[i]? = some o) (hx:¬ X i) (t:Nat):Hid ops X ((i,k) :: done) t↔(Hid ops X done t∨o.dst=some t):=by
 constructor
 ·rintro ⟨j,oj,h1,h2,h3,h4⟩
  rw [jda] at h1
  rcases h1 with rfl | h1
  ·rw [ho] at h3;cases h3;exact .inr h4
  ·exact .inl ⟨j,oj,h1,h2,h3,h4⟩
 ·rintro (⟨j,oj,h1,h2,h3,h4⟩ | h)
  ·exact ⟨j,oj,(jda _ _ _ _).2 (.inr h1),h2,h3,h4⟩
  ·exact ⟨i,o,(jda _ _ _ _).2 (.inl rfl),hx,ho,h⟩
theorem Mid.light {n i:Nat} {done:List (Nat × Nat)} {js:List Nat} {r:List (Nat × Nat × List Nat)} {p:Path} {c:Bool} (M:Mid C R ops ms n X done ((i,0,js) :: r) s σ G a w) (K:Chk ops ms done i 0 js r o) (hg:guardOf ops s o.guard=some (p,c)) (hl:c=false∨Den.light C s p o.op=some (true,v)) :
  Mid C R ops ms n X ((i,0) :: done) r (pt C s p c o.dst v) σ G a w:=by
 have hx:¬ X i:=M.notX K.new
 have hfree:∀t,o.dst=some t→lk σ.l t=none:=fun t ht=>by
  cases he:lk σ.l t with
  | none=>rfl
  | some e =>
   obtain ⟨⟨j,oj,h1,h2,h3⟩,_⟩:=M.lx t (by rw [he];rfl)
   have:=M.one K.ho h2 ht h3
   subst this
   exact absurd h1 hx
 have hself:∀t,t∈o.looksAt ops→o.dst≠some t:=fun t ht hd=>by
  rcases K.rd t ht i o K.ho hd with h | ⟨h,_⟩ | ⟨_,h⟩
  ·have:=K.sub i (joc K.ho) h;rw [K.new] at this;cases this
  ·have:=K.sub i (joc K.ho) h;rw [K.new] at this;cases this
  ·cases h
 have hlsN:∀t,isIn C.keep t=true→lk s.l t=none:=fun t hk=>by
  cases he:lk s.l t with
  | none=>rfl
  | some e=>have:=M.ls t (by rw [he];rfl);rw [hk] at this;cases this
 refine { dst:=M.dst,chk:=K.next,wf:=⟨fun j hj hb=>K.sub j hj hb,M.wf⟩,dx:=fun j hj=>(jda _ _ _ _).2 (.inr (M.dx j hj)),cl:=M.cl,tx:=fun j hj=>?_,kk:=fun j hj=>?_,rd:=M.rd_next rfl (by decide) K,rel:=?_,ag:=fun j hj hxj=>?_,al:=fun j hj hxj=>?_,inv:=M.inv,sm:=by rw [pt_m];exact M.sm,lx:=M.lx,ls:=fun t ht=>?_,sz:=M.sz }
 ·rw [jja] at hj
  rcases hj with ⟨_,h⟩ | hj
  ·cases h
  ·exact M.tx j hj
 ·rw [jda] at hj
  simp only [jja]
  rcases hj with rfl | hj
  ·exact .inl (by simp)
  ·rcases M.kk j hj with h | h | h
   ·exact .inl (.inr h)
   ·exact .inr (.inl (.inr h))
   ·exact .inr (.inr (.inr h))
 ·cases hd:o.dst with
  | none=>exact M.rel.congr fun t=>by rw [jvm K.ho hx,hd];simp
  | some t=>exact (M.rel.ahead (hfree t hd) M.sm).congr fun u=>by rw [jvm K.ho hx,hd];simp [eq_comm]
 ·rw [jja] at hj
  rcases hj with ⟨rfl,_⟩ | hj
  ·-- the operation itself
   unfold again
   rw [K.ho]
   dsimp only
   have e1:guardOf ops (pt C s p c o.dst v) o.guard=guardOf ops s o.guard:=jsh fun j b oj t hgj hj ht=>(jgc (hself t (jve hgj hj ht)) M.sm).1
   have e2:Den.light C (pt C s p c o.dst v) p o.op=Den.light C s p o.op:=jye (pt_h _ _ _ _ _) fun t ht p=>by
    obtain ⟨e3,e4⟩:=jgc (C:=C) (st:=s) (p:=p) (c:=c) (v:=v) (hself t (jya ht)) M.sm
    exact jkt (jgc (hself t (jya ht)) M.sm).1 (jgc (hself t (jya ht)) M.sm).2 p
   rw [e1,hg]
   dsimp only
   rw [e2]
   cases hd:o.dst with
   | none =>
    dsimp only
    rcases hl with hl | hl
    ·exact .inl hl
    ·exact .inr ⟨v,hl⟩
   | some t =>
    dsimp only
    obtain ⟨x,h1,h2⟩:=jeq (C:=C) (v:=v) (p:=p) (c:=c) (t:=t) M.sm (hlsN t)
    rw [h1]
    dsimp only
    rcases hl with hl | hl
    ·exact .inl hl
    ·exact .inr ⟨v,hl,by rcases h2 with h | h;exact .inl h;exact .inr h.symm⟩
  ·exact jlm (pt_h _ _ _ _ _) (fun o' t ho' ht=>jgc (M.stays rfl (by decide) K (jpe hj) hxj o' t ho' ht) M.sm) (M.ag j hj hxj)
 ·rw [jja] at hj
  rcases hj with ⟨_,h⟩ | hj
  ·cases h
  ·obtain ⟨o',d,b,y0,h1,h3,h4,h5,h6,x,h7,h8⟩:=M.al j hj hxj
   obtain ⟨e3,e4⟩:=jgc (C:=C) (st:=s) (p:=p) (c:=c) (v:=v) (M.stays rfl (by decide) K (jpe hj) hxj o' d h1 (.inr h4)) M.sm
   exact ⟨o',d,b,y0,h1,h3,h4,h5,h6,x,by rw [jxd e3 e4];exact h7,h8⟩
 ·-- slots filled are not kept
  unfold pt at ht
  cases hd:o.dst with
  | none=>rw [hd] at ht;exact M.ls t ht
  | some d =>
   rw [hd] at ht
   dsimp only at ht
   split at ht
   ·refine M.ls t ?_
    split at ht<;>exact ht
   ·rename_i hk
    simp only [lk] at ht
    split at ht
    ·rename_i e;subst e;simpa using hk
    ·exact M.ls t ht
theorem jtt {n:Nat} {b:Blk} (h:adds st [(n,b)]=some st1):hlk st.h n=none∧st1={ st with h:=st.h++[(n,b)] }:=by
 simp only [adds] at h
 split at h
 ·cases h
 ·rename_i hn;cases h;exact ⟨hn,rfl⟩
theorem jhw {n:Nat} {b:Blk} (H:Inv C R G σ a w) (hn:hlk σ.h n=none):Inv C R G { σ with h:=σ.h++[(n,b)] } a w∧¬ G.live n∧∀m cs,jwb G σ.h m cs→jwb G (σ.h++[(n,b)]) m cs:=by
 have hnl:¬ G.live n:=fun h=>by obtain ⟨b',hb,_⟩:=H.B.rel n h id;rw [hn] at hb;cases hb
 have key:∀m x,hlk σ.h m=some x→hlk (σ.h++[(n,b)]) m=some x:=fun m x h=>by rw [jje,h]
 have hs:∀m,Same G σ.h G (σ.h++[(n,b)]) m:=fun m hm=>⟨hm,rfl,rfl,fun e sz xs hx=>⟨xs,key _ _ hx⟩⟩
 refine ⟨⟨H.W,⟨fun m hm _=>?_,fun m k hm _ hk _=>H.B.disj m k hm id hk id,fun m hm _=>H.B.mine m hm id,fun m b' hf=>?_⟩,fun _ _ _=>id,fun t=>?_,H.l,H.m⟩,hnl,fun m cs ⟨h1,h2,h3⟩=>⟨h1,key _ _ h2,h3⟩⟩
 ·obtain ⟨x,h1,h2⟩:=H.B.rel m hm id
  exact ⟨x,key _ _ h1,jhb hs rfl rfl rfl h2⟩
 ·obtain ⟨h1,h2,h3⟩:=H.B.fix m b' hf
  obtain ⟨cs,hc⟩:=h3 id
  exact ⟨h1,h2,fun _=>⟨cs,key _ _ hc⟩⟩
 ·exact jib hs (H.slots t)
theorem Mid.alloc {n i:Nat} {done:List (Nat × Nat)} {js:List Nat} {r:List (Nat × Nat × List Nat)} {d:Nat} {b:Blk} {x0:SV} (M:Mid C R ops ms n X done ((i,2,js) :: r) s σ G a w) (K:Chk ops ms done i 2 js r o) (hg:o.guard=none) (hd:o.dst=some d) (hz:NewK C o d b x0)
  (hh:adds s [(nm d 0,b)]=some s1):Mid C R ops ms n X ((i,2) :: done) r (pt C s1 [] true o.dst x0) { σ with h:=σ.h++[(nm d 0,b)] } G a w:=by
 have hx:¬ X i:=M.notX K.new
 obtain ⟨hn,rfl⟩:=jtt hh
 have hn':hlk σ.h (nm d 0)=none:=by rw [M.rel.h];exact hn
 obtain ⟨u1,u2,u3⟩:=jhw (b:=b) M.inv hn'
 obtain ⟨_,hall⟩:=K.alloc rfl
 have hfree:lk σ.l d=none:=by
  cases he:lk σ.l d with
  | none=>rfl
  | some e =>
   obtain ⟨⟨j,oj,h1,h2,h3⟩,_⟩:=M.lx d (by rw [he];rfl)
   have:=M.one K.ho h2 hd h3
   subst this
   exact absurd h1 hx
 have hlsN:∀t,isIn C.keep t=true→lk s.l t=none:=fun t hk=>by
  cases he:lk s.l t with
  | none=>rfl
  | some e=>have:=M.ls t (by rw [he];rfl);rw [hk] at this;cases this
 refine { dst:=M.dst,chk:=K.next,wf:=⟨fun j hj hb=>K.sub j hj hb,M.wf⟩,dx:=fun j hj=>(jda _ _ _ _).2 (.inr (M.dx j hj)),cl:=M.cl,tx:=fun j hj=>?_,kk:=fun j hj=>?_,rd:=M.rd_next rfl (by decide) K,rel:=?_,ag:=fun j hj hxj=>?_,al:=fun j hj hxj=>?_,inv:=u1,sm:=by rw [pt_m];exact M.sm,lx:=M.lx,ls:=fun t ht=>?_,sz:=M.sz }
 ·rw [jja] at hj
  rcases hj with ⟨_,h⟩ | hj
  ·cases h
  ·exact M.tx j hj
 ·rw [jda] at hj
  simp only [jja]
  rcases hj with rfl | hj
  ·exact .inr (.inr (by simp))
  ·rcases M.kk j hj with h | h | h
   ·exact .inl (.inr h)
   ·exact .inr (.inl (.inr h))
   ·exact .inr (.inr (.inr h))
 ·rw [hd]
  have R1:Rel C (Hid ops X done) { σ with h:=σ.h++[(nm d 0,b)] } { s with h:=s.h++[(nm d 0,b)] }:=⟨by show σ.h++_=s.h++_;rw [M.rel.h],M.rel.eq,M.rel.no⟩
  exact (R1.ahead hfree M.sm).congr fun u=>by rw [jvm K.ho hx,hd];simp [eq_comm]
 ·rw [jja] at hj
  rcases hj with ⟨_,h⟩ | hj
  ·cases h
  ·have:=hall j 0 hj;cases this
 ·rw [jja] at hj
  rcases hj with ⟨rfl,_⟩ | hj
  ·obtain ⟨x,h1,h2⟩:=jeq (C:=C) (st:={ s with h:=s.h++[(nm d 0,b)] }) (v:=x0) (p:=[]) (c:=true) (t:=d) M.sm (hlsN d)
   refine ⟨o,d,b,x0,K.ho,hg,hd,hz,⟨u2,?_,hz.bare⟩,x,by rw [hd];exact h1,h2.symm⟩
   rw [jje,hn'];simp [hlk]
  ·obtain ⟨o',d',b',y0,h1,h3,h4,h5,h6,x,h7,h8⟩:=M.al j hj hxj
   obtain ⟨e3,e4⟩:=jgc (C:=C) (st:={ s with h:=s.h++[(nm d 0,b)] }) (p:=[]) (c:=true) (v:=x0) (M.stays rfl (by decide) K (jpe hj) hxj o' d' h1 (.inr h4)) M.sm
   exact ⟨o',d',b',y0,h1,h3,h4,h5,u3 _ _ h6,x,by rw [jxd e3 e4];exact h7,h8⟩
 ·unfold pt at ht
  rw [hd] at ht
  dsimp only at ht
  split at ht
  ·exact M.ls t ht
  ·rename_i hk
   simp only [lk] at ht
   split at ht
   ·rename_i e;subst e;simpa using hk
   ·exact M.ls t ht
theorem jwg {i k:Nat} {js:List Nat} {r:List (Nat × Nat × List Nat)} (h:runDraw C ops ((i,k,js) :: r) s=some st2) (ho:ops[i]? = some o):∃s1,stepD C ops o k s=some s1∧jjf C ops s (jtg hits C ops s o) (jtg hitsB C ops s o) js=true∧runDraw C ops r s1=some st2:=by
 simp only [runDraw,ho] at h
 split at h
 ·rename_i h2
  split at h
  ·rename_i s1 h1;exact ⟨s1,h1,h2,h⟩
  ·cases h
 ·cases h
theorem jdw (h:stepD C ops o 0 s=some s1):∃p c v,guardOf ops s o.guard=some (p,c)∧(c=false∨Den.light C s p o.op=some (true,v))∧s1=pt C s p c o.dst v:=by
 unfold stepD at h
 cases hg:guardOf ops s o.guard with
 | none=>rw [hg] at h;cases h
 | some pc =>
  obtain ⟨p,c⟩:=pc
  rw [hg] at h
  simp only at h
  cases hl:Den.light C s p o.op with
  | none =>
   rw [hl] at h
   cases p with
   | nil=>cases h
   | cons q p =>
    cases c with
    | true=>cases h
    | false=>simp only [Bool.false_eq_true,if_false] at h;cases h;exact ⟨_,_,.undef,rfl,.inl rfl,rfl⟩
  | some q =>
   obtain ⟨ok,v⟩:=q
   rw [hl] at h
   simp only at h
   by_cases hok:okP p c ok=true
   ·rw [if_pos hok] at h;cases h
    refine ⟨p,c,v,rfl,?_,rfl⟩
    cases c with
    | false=>exact .inl rfl
    | true=>have:=jat hok rfl;subst this;exact .inr hl
   ·rw [if_neg hok] at h;cases h
theorem jzv (h:stepD C ops o 1 s=some s1):∃p c,guardOf ops s o.guard=some (p,c)∧(p=[]∧((∃v,Den.light C s [] o.op=some (true,v)∧s1=pt C s [] true o.dst v)∨Den.light C s [] o.op=none∧∃v s2,heavy C s (o.dst.getD 0) o.op=some (true,v,s2)∧s1=pt C s2 [] true o.dst v) ∨
  p≠[]∧(c=false∧s1=pt C s p false o.dst .undef∨c=true∧(∀H,jtg H C ops s o=H C (atP p s) o.op)∧∃v s2,heavy C (atP p s) (o.dst.getD 0) o.op=some (true,v,s2)∧s1=pt C ⟨s2.m,zipL s.l s2.l,s2.h⟩ p true o.dst v)):=by
 unfold stepD at h
 cases hg:guardOf ops s o.guard with
 | none=>rw [hg] at h;cases h
 | some pc =>
  obtain ⟨p,c⟩:=pc
  rw [hg] at h
  simp only at h
  refine ⟨p,c,rfl,?_⟩
  cases p with
  | cons q p =>
   refine .inr ⟨by simp,?_⟩
   simp only at h
   cases c with
   | false =>
    simp only [Bool.false_eq_true,if_false] at h
    cases h;exact .inl ⟨rfl,rfl⟩
   | true =>
    simp only [if_true] at h
    cases hh:heavy C (atP (q :: p) s) (o.dst.getD 0) o.op with
    | none=>rw [hh] at h;cases h
    | some z =>
     obtain ⟨ok,v,s2⟩:=z
     rw [hh] at h
     simp only at h
     by_cases hok:ok=true
     ·rw [if_pos hok] at h;cases h;exact .inr ⟨rfl,fun H=>by simp only [jtg,hg],v,s2,by rw [hok],rfl⟩
     ·rw [if_neg hok] at h;cases h
  | nil =>
   simp only at h
   refine .inl ⟨rfl,?_⟩
   cases hl:Den.light C s [] o.op with
   | some q =>
    obtain ⟨ok,v⟩:=q
    rw [hl] at h
    simp only at h
    by_cases hok:ok=true
    ·rw [if_pos hok] at h;cases h;exact .inl ⟨v,by rw [hok],rfl⟩
    ·rw [if_neg hok] at h;cases h
   | none =>
    rw [hl] at h
    simp only at h
    cases hh:heavy C s (o.dst.getD 0) o.op with
    | none=>rw [hh] at h;cases h
    | some q =>
     obtain ⟨ok,v,s2⟩:=q
     rw [hh] at h
     simp only at h
     by_cases hok:ok=true
     ·rw [if_pos hok] at h;cases h;exact .inr ⟨rfl,v,s2,by rw [hok],rfl⟩
     ·rw [if_neg hok] at h;cases h
theorem Mid.advance {n:Nat}:∀{suf:List (Nat × Nat × List Nat)} {done:List (Nat × Nat)} {s σ:St},Mid C R ops ms n X done suf s σ G a w→runDraw C ops suf s=some st2 →
  ∃done' suf' s' σ',Mid C R ops ms n X done' suf' s' σ' G a w∧runDraw C ops suf' s'=some st2∧(suf'=[]∨∃i js r,suf'=(i,1,js) :: r)
 | [],done,s,σ,M,h=>⟨done,[],s,σ,M,h,.inl rfl⟩
 | (i,k,js) :: r,done,s,σ,M,h=>by
  obtain ⟨o,K⟩:=jod M.chk
  rcases K.cls with rfl | rfl | rfl
  ·obtain ⟨s1,h1,_,h3⟩:=jwg h K.ho
   obtain ⟨p,c,v,hg,hl,rfl⟩:=jdw h1
   exact (M.light K hg hl).advance h3
  ·exact ⟨done,_,s,σ,M,h,.inr ⟨i,js,r,rfl⟩⟩
  ·obtain ⟨s1,h1,_,h3⟩:=jwg h K.ho
   obtain ⟨hal,_⟩:=K.alloc rfl
   unfold jnp at hal
   split at hal
   ·rename_i t d hop hgd hd
    unfold stepD at h1
    rw [hgd] at h1
    simp only [guardOf,hop,Den.light,heavy,hd,Option.getD_some] at h1
    split at h1
    ·rename_i ok v s' heq
     split at heq
     ·rename_i zs hz
      rw [Option.map_eq_some_iff] at heq
      obtain ⟨s0,h4,h5⟩:=heq
      cases h5
      simp only [if_true] at h1
      cases h1
      have:=(M.alloc K hgd hd (.al t zs hop hz) h4)
      rw [hd] at this
      exact this.advance h3
     ·cases heq
    ·cases h1
   ·rename_i t parts d hop hgd hd
    have hpe:parts=#[]:=Array.isEmpty_iff.1 hal
    subst hpe
    unfold stepD at h1
    rw [hgd] at h1
    simp only [guardOf,hop,Den.light,heavy,hd,Option.getD_some,rowsOf,List.length_nil,Nat.zero_mul,Nat.zero_le,and_self,if_true] at h1
    split at h1
    ·rename_i ok v s' heq
     split at heq
     ·rename_i el ht
      split at heq
      ·rename_i zs hz
       rw [Option.map_eq_some_iff] at heq
       obtain ⟨s0,h4,h5⟩:=heq
       cases h5
       simp only [if_true] at h1
       cases h1
       have:=(M.alloc K hgd hd (.bs t el zs hop ht hz) h4)
       rw [hd] at this
       exact this.advance h3
      ·cases heq
     ·cases heq
    ·cases h1
   ·cases hal
end Go.Den

/- Draw regions, sixth part: what the machine does, one operation after the other. -/
namespace Go.Den
open Go
variable {C:Ctx} {R:Rt} {G G' G0 G1:Gh} {st st1 st2 σ σ1 s s1:St} {a a':Act} {w w':World} {o:Oper} {v x:SV} {ops:Array Oper} {ms:List Nat} {X:Nat→Prop} {n:Nat} {done:List (Nat × Nat)} {suf:List (Nat × Nat × List Nat)}

theorem jqw {ops:List Oper} {i j:Nat} {o:Oper} (ho:ops[i]? = some o) (hb:bef (jnb [] ops) i j=true):∃e∈o.after.toList,Region.binds .any e=true∧(j=e.on∨bef (jnb [] ops) e.on j=true):=by
 obtain ⟨r,h1,h2,h3⟩:=jee ops []
 simp only [List.nil_append] at h1 h3
 unfold bef at hb ⊢
 rw [h1] at hb ⊢
 rw [List.getD_eq_getElem?_getD,h3 i o ho] at hb
 simp only [Option.getD_some,jgf] at hb
 obtain ⟨e,he,hbind,hj⟩:=hb
 refine ⟨e,he,hbind,?_⟩
 rcases hj with hj | hj
 ·exact .inl hj
 ·refine .inr ?_
  by_cases hlt:e.on < i
  ·rw [List.getD_eq_getElem?_getD,List.getElem?_take,if_pos hlt] at hj
   rw [List.getD_eq_getElem?_getD]
   exact hj
  ·rw [List.getD_eq_getElem?_getD,List.getElem?_take,if_neg hlt] at hj
   simp at hj
theorem jdm {i0 i:Nat}:∀{r:List (Nat × Nat × List Nat)} {done:List (Nat × Nat)},chkD ops ms done r=true→hasD done i0 1=true→i < ops.size→anyD done i=false→bef ms i i0=true
 | [],done,hc,_,hi,hn=>by
  simp only [chkD,List.all_eq_true,List.mem_range] at hc
  rw [hc i hi] at hn;cases hn
 | (j,k,js) :: r,done,hc,h0,hi,hn=>by
  obtain ⟨o,K⟩:=jod hc
  by_cases e:j=i
  ·subst e
   by_cases hk:k=2
   ·have:=(K.alloc hk).2 i0 1 h0
    cases this
   ·exact K.turns hk i0 h0
  ·refine jdm K.next ((jja _ _ _ _ _).2 (.inr h0)) hi ?_
   cases he:anyD ((j,k) :: done) i with
   | false=>rfl
   | true =>
    rw [jda] at he
    rcases he with he | he
    ·exact absurd he e
    ·rw [hn] at he;cases he

theorem lx_pt {p:Path} {c:Bool} {d:Option Nat} {i:Nat} (hlx:∀t,(lk σ.l t).isSome=true→(∃i o,X i∧ops[i]? = some o∧o.dst=some t)∧isIn C.keep t=false) (ho:ops[i]? = some o) (hd:o.dst=d) :
  ∀t,(lk (pt C σ p c d x).l t).isSome=true→(∃j o,(X j∨j=i)∧ops[j]? = some o∧o.dst=some t)∧isIn C.keep t=false:=by
 have old:∀t,(lk σ.l t).isSome=true→(∃j o,(X j∨j=i)∧ops[j]? = some o∧o.dst=some t)∧isIn C.keep t=false:=fun t ht=>by
  obtain ⟨⟨j,oj,h1,h2,h3⟩,h4⟩:=hlx t ht
  exact ⟨⟨j,oj,.inl h1,h2,h3⟩,h4⟩
 intro t ht
 unfold pt at ht
 cases d with
 | none=>exact old t ht
 | some d =>
  dsimp only at ht
  split at ht
  ·refine old t ?_
   split at ht<;>exact ht
  ·rename_i hk
   simp only [lk] at ht
   split at ht
   ·rename_i e;subst e;exact ⟨⟨i,o,.inr rfl,ho,hd⟩,by simpa using hk⟩
   ·exact old t ht
theorem jiz {t:Nat} {p:Path} {c:Bool} (hxt:holdsV C s t p c=some x):Holds C s t p c x:=by
 unfold holdsV at hxt
 split at hxt
 ·rename_i hk
  refine .inr ⟨hk,?_⟩
  split at hxt
  ·rename_i hl
   refine ⟨hl,?_⟩
   split at hxt
   ·simp at hxt;exact ⟨hxt,fun h=>absurd rfl h⟩
   ·rename_i h;simp at hxt;rw [←hxt];exact ⟨h,fun _=>rfl⟩
   ·cases hxt
  ·cases hxt
 ·rename_i hk
  refine .inl ⟨by simpa using hk,?_⟩
  split at hxt
  ·rename_i q c' y hl
   split at hxt
   ·rename_i h;obtain ⟨rfl,rfl⟩:=h;cases hxt;exact hl
   ·cases hxt
  ·cases hxt
theorem Mid.caught {i:Nat} {p:Path} {c:Bool} (M:Mid C R ops ms n X done suf s σ G a w) (ho:ops[i]? = some o) (hi:anyD done i=true) (hX:¬ X i) (hr:∀j,bef ms i j=true→X j) (hinv:Inv C R G' (pt C σ p c o.dst x) a' w') (hsz:a'.tmps.size=a.tmps.size)
  (hx:∀t,o.dst=some t→holdsV C s t p c=some x) (hal:∀d cs,(∀t,o.dst=some t→d≠t)→jwb G σ.h (nm d 0) cs→jwb G' σ.h (nm d 0) cs):Mid C R ops ms n (fun j=>X j∨j=i) done suf s (pt C σ p c o.dst x) G' a' w':=by
 have hfree:∀t,o.dst=some t→lk σ.l t=none:=fun t hd=>by
  cases he:lk σ.l t with
  | none=>rfl
  | some e =>
   obtain ⟨⟨j,oj,h1,h2,h3⟩,_⟩:=M.lx t (by rw [he];rfl)
   have:=M.one ho h2 hd h3
   subst this
   exact absurd h1 hX
 refine { dst:=M.dst,chk:=M.chk,wf:=M.wf,dx:=fun j hj=>?_,cl:=fun j k hj hb=>?_,tx:=fun j hj=>.inl (M.tx j hj),kk:=M.kk,rd:=fun j o' t k oj h1 h2=>M.rd j o' t k oj h1 (fun h=>h2 (.inl h)),rel:=?_,ag:=fun j hj hxj=>M.ag j hj (fun h=>hxj (.inl h)),al:=fun j hj hxj=>?_,inv:=hinv,sm:=M.sm,lx:=lx_pt M.lx ho rfl,ls:=M.ls,sz:=hsz.trans M.sz }
 ·rcases hj with hj | rfl
  ·exact M.dx j hj
  ·exact hi
 ·rcases hj with hj | rfl
  ·exact .inl (M.cl j k hj hb)
  ·exact .inl (hr k hb)
 ·cases hd:o.dst with
  | none =>
   refine M.rel.congr fun t=>⟨fun ⟨j,oj,h1,h2,h3,h4⟩=>⟨j,oj,h1,fun h=>h2 (.inl h),h3,h4⟩,fun ⟨j,oj,h1,h2,h3,h4⟩=>⟨j,oj,h1,fun h=>?_,h3,h4⟩⟩
   rcases h with h | rfl
   ·exact h2 h
   ·rw [ho] at h3;cases h3;rw [hd] at h4;cases h4
  | some t =>
   have R1:=M.rel.catch_up (jiz (hx t hd)) (hfree t hd) M.inv.m (fun hk=>jug hk)
   refine R1.congr fun u=>⟨fun ⟨j,oj,h1,h2,h3,h4⟩=>⟨⟨j,oj,h1,fun h=>h2 (.inl h),h3,h4⟩,fun e=>h2 (.inr (M.one h3 ho h4 (by rw [e];exact hd)))⟩,fun ⟨⟨j,oj,h1,h2,h3,h4⟩,h5⟩=>⟨j,oj,h1,fun h=>?_,h3,h4⟩⟩
   rcases h with h | rfl
   ·exact h2 h
   ·rw [ho] at h3;cases h3;rw [hd] at h4;cases h4;exact h5 rfl
 ·obtain ⟨o',d,b,y0,h1,h3,h4,h5,h6,y,h7,h8⟩:=M.al j hj (fun h=>hxj (.inl h))
  exact ⟨o',d,b,y0,h1,h3,h4,h5,by rw [pt_h];exact hal d _ (fun t' ht' e=>hxj (.inr (M.one h1 ho (by rw [h4,e]) ht'))) h6,y,h7,h8⟩
theorem Mid.vis {i:Nat} (M:Mid C R ops ms n X done suf s σ G a w) (ho:ops[i]? = some o) (hi:anyD done i=true) (hX:¬ X i) (hr:∀j,bef ms i j=true→X j):∀t∈o.looksAt ops,¬ Hid ops X done t:=by
 rintro t ht ⟨j,oj,h1,h2,h3,h4⟩
 rcases M.rd i o t j oj hi hX ho ht h3 h4 with h | ⟨_,h⟩
 ·exact h2 (hr j h)
 ·have:=jvf h M.chk
  rw [h1] at this;cases this
theorem Mid.vis_turn {i:Nat} {js:List Nat} {r:List (Nat × Nat × List Nat)} (M:Mid C R ops ms n X done ((i,1,js) :: r) s σ G a w) (K:Chk ops ms done i 1 js r o) (hr:∀j,bef ms i j=true→X j):∀t∈o.looksAt ops,¬ Hid ops X done t:=by
 rintro t ht ⟨j,oj,h1,h2,h3,h4⟩
 rcases K.rd t ht j oj h3 h4 with h | ⟨_,h⟩ | ⟨h,_⟩
 ·exact h2 (hr j h)
 ·have:=jvf h K.next
  rw [(jda _ _ _ _).2 (.inr h1)] at this;cases this
 ·subst h
  have:=K.new
  rw [h1] at this;cases this
theorem Mid.guard {p:Path} {c:Bool} (M:Mid C R ops ms n X done suf s σ G a w) (hv:∀t∈o.looksAt ops,¬ Hid ops X done t) (hg:guardOf ops s o.guard=some (p,c)):guardOf ops σ o.guard=some (p,c):=by
 rw [M.rel.guard fun j b oj t hgj hj ht=>hv t (jve hgj hj ht)]
 exact hg
end Go.Den
