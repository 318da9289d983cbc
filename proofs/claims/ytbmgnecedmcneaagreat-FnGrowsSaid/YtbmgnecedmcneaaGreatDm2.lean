/- The evaluator of Go code over plain data, and its soundness: part 2 of 9. -/
import Derived.Test.YtbmgnecedmcneaaGreatDm1
import Derived.Laws.BytesString
set_option linter.unusedVariables false
set_option linter.unusedSimpArgs false
/- Loading, indexing, slicing, lengths. -/
namespace Go.Den
open Go
variable {C:Ctx} {R:Rt} {G:Gh} {st:St} {a:Act} {w:World} {p:Path} {o:Oper} {v:SV}

theorem Here.cellT (H:Here C R G st a w p) {g o:Nat} (hT:R.T g):w.cell? ⟨g,o,none⟩=R.w0.cell? ⟨g,o,none⟩ :=
 World.cell?_of_block (H.W.old g (H.W.T g hT).1 (H.W.T g hT).2)
theorem jfc {x:SV} {u:Value} {h:List (Nat × Blk)} (hx:CRel R G h x u):VRel R G h x u:=by
 cases x<;>first | exact hx | exact hx.elim
theorem jtm {h:List (Nat × Blk)} {cs:List SV} {vs:List Value} (hl:vs.length=cs.length) (hc:∀(j:Nat) x,cs[j]? = some x→∃u,vs[j]? = some u∧u.oneCell'=true∧CRel R G h x u):VRel R G h (.agg cs) (.agg vs.toArray):=⟨vs,rfl,hl,hc⟩

theorem unbx_rel {h:List (Nat × Blk)} {x:SV} {u:Value} (hx:CRel R G h x u):CRel R G h (unbx x) u:=by
 cases x<;>first | exact hx | exact hx.2
theorem unbxs_len:∀(cs:List SV),(unbxs cs).length=cs.length
 | []=>rfl
 | c :: cs=>by simp [unbxs,unbxs_len cs]
theorem unbxs_get:∀(cs:List SV) (j:Nat),(unbxs cs)[j]? = (cs[j]?).map unbx
 | [],j=>by simp [unbxs]
 | c :: cs,0=>by simp [unbxs]
 | c :: cs,j+1=>by simp [unbxs,unbxs_get cs]
theorem jvq {t:TypeId} {x:Operand} {r:SV} (H:Here C R G st a w p) (hs:Slots C R G st a [x]) (ho:o.op=.load t x) (h:load C st t (ev C st p x)=some r):Does C R G st a w o r:=by
 have hx:=H.ev hs (x:=x) (by simp)
 generalize ev C st p x=sx at hx h
 have hsz1:∀{t},okTy (tyOf C.P t)=true→isAggTy (tyOf C.P t)=false→(tyOf C.P t).size=1:=by
  intro t h1 h2
  cases hk:tyOf C.P t<;>simp_all [Ty.size,isAggTy]
 unfold load at h
 split at h
 ·rename_i n off
  obtain ⟨hlive,hv⟩:=hx
  obtain ⟨b,hb,hbr⟩:=H.B.rel n hlive
  rw [hb] at h
  cases b with
  | row e sz xs=>cases h
  | box cs =>
   obtain ⟨cur,e,hg,_,_,hcur,hcell⟩:=hbr
   have hcell':∀(j:Nat) x,cs[j]? = some x→∃u,w.cell? ⟨(G.base n).1,(G.base n).2+j,none⟩=some u∧u.oneCell'=true∧CRel R G st.h x u:=by
    intro j x hj
    obtain ⟨u,h1,h2,h3⟩:=hcell j x hj
    exact ⟨u,by rw [cell_of_row w _ _ cur e (0,0) hg];exact h1,h2,h3⟩
   dsimp only at h
   split at h
   ·rename_i hA
    split at h
    ·rename_i hlen
     cases h
     have hok:okTy (tyOf C.P t)=true:=by cases hk:tyOf C.P t<;>simp_all [isAggTy,okTy]
     -- the cells, one by one
     have hvs:∃vs:List Value,vs.length=(tyOf C.P t).size∧∀(j:Nat) u,vs[j]? = some u→w.cell? ⟨(G.base n).1,(G.base n).2+off+j,none⟩=some u∧u.oneCell'=true∧∃x,cs[off+j]? = some x∧CRel R G st.h x u:=by
      refine ⟨((cur.toList.drop ((G.base n).2+off)).take (tyOf C.P t).size),?_,fun j u hj=>?_⟩
      ·simp;omega
      ·rw [List.getElem?_take] at hj
       split at hj
       ·rename_i hjs
        rw [List.getElem?_drop] at hj
        obtain ⟨x,hx⟩:∃x,cs[off+j]? = some x:=⟨cs[off+j]'(by omega),List.getElem?_eq_getElem (by omega)⟩
        obtain ⟨u',h1,h2,h3⟩:=hcell (off+j) x hx
        have:u'=u:=by
         have h4:cur[(G.base n).2+off+j]? = some u:=by simpa using hj
         rw [←Nat.add_assoc] at h1
         rw [h1] at h4
         cases h4;rfl
        subst this
        exact ⟨by rw [cell_of_row w _ _ cur e (0,0) hg,Nat.add_assoc];exact h1,h2,x,hx,h3⟩
       ·cases hj
     obtain ⟨vs,hl,hc⟩:=hvs
     have hrun:=jkb (P:=C.P) (w:=w) (g:=(G.base n).1) (o:=(G.base n).2+off) hok hl (fun j u hj=>(hc j u hj).1)
     rw [if_pos hA] at hrun
     refine ⟨.agg vs.toArray,by simp [execOp,ho,hv,Instr.loadAt,Instr.sureAddr,hrun],jtm (by rw [unbxs_len];simp;omega) (fun j x hj=>?_)⟩
     rw [unbxs_get,Option.map_eq_some_iff] at hj
     obtain ⟨x,hj,rfl⟩:=hj
     rw [List.getElem?_take] at hj
     split at hj
     ·rename_i hjs
      rw [List.getElem?_drop] at hj
      obtain ⟨u,hu⟩:∃u,vs[j]? = some u:=⟨vs[j]'(by omega),List.getElem?_eq_getElem (by omega)⟩
      obtain ⟨_,h2,x',hx',h3⟩:=hc j u hu
      rw [hj] at hx';cases hx'
      exact ⟨u,hu,h2,unbx_rel h3⟩
     ·cases hj
    ·cases h
   ·rename_i hA
    split at h
    ·rename_i hok
     rw [nth?_eq,Option.map_eq_some_iff] at h
     obtain ⟨r,h,rfl⟩:=h
     obtain ⟨u,h1,h2,h3⟩:=hcell' off r h
     have hrun:=jkb (P:=C.P) (w:=w) (g:=(G.base n).1) (o:=(G.base n).2+off) (vs:=[u]) hok (by rw [hsz1 hok (by simpa using hA)];rfl) (fun j u' hj=>by
      cases j with
      | zero=>simp at hj;subst hj;simpa using h1
      | succ j=>simp at hj)
     rw [if_neg hA] at hrun
     exact ⟨u,by simp [execOp,ho,hv,Instr.loadAt,Instr.sureAddr,hrun],jfc (unbx_rel h3)⟩
    ·cases h
 ·rename_i cs off
  obtain ⟨g,o',hv,hT,hcell⟩:=hx
  have hcell':∀(j:Nat) d,cs[j]? = some d→∃u,w.cell? ⟨g,o' + j,none⟩=some u∧Rep R.w0 R.T d u:=by
   intro j d hj
   obtain ⟨u,h1,h2⟩:=hcell j d hj
   exact ⟨u,by rw [H.cellT hT];exact h1,h2⟩
  split at h
  ·rename_i hA
   split at h
   ·rename_i hlen
    cases h
    have hok:okTy (tyOf C.P t)=true:=by cases hk:tyOf C.P t<;>simp_all [isAggTy,okTy]
    have hvs:∀m,off+m≤cs.length→∃vs:List Value,vs.length=m∧∀(j:Nat) u,vs[j]? = some u→w.cell? ⟨g,o' + off+j,none⟩=some u∧∃d,cs[off+j]? = some d∧Rep R.w0 R.T d u:=by
     intro m
     induction m with
     | zero=>intro _;exact ⟨[],rfl,fun j u hj=>by simp at hj⟩
     | succ m ih =>
      intro hm
      obtain ⟨vs,h1,h2⟩:=ih (by omega)
      obtain ⟨u,h3,h4⟩:=hcell' (off+m) cs[off+m] (List.getElem?_eq_getElem (by omega))
      refine ⟨vs++[u],by simp [h1],fun j u' hj=>?_⟩
      rcases Nat.lt_trichotomy j m with hlt | rfl | hgt
      ·rw [List.getElem?_append_left (by omega)] at hj;exact h2 j u' hj
      ·rw [List.getElem?_append_right (by omega)] at hj
       simp [h1] at hj
       subst hj
       exact ⟨by rw [Nat.add_assoc];exact h3,_,List.getElem?_eq_getElem (by omega),h4⟩
      ·rw [List.getElem?_eq_none (by simp;omega)] at hj;cases hj
    obtain ⟨vs,hl,hc⟩:=hvs _ hlen
    have hrun:=jkb (P:=C.P) (w:=w) (g:=g) (o:=o' + off) hok hl (fun j u hj=>(hc j u hj).1)
    rw [if_pos hA] at hrun
    refine ⟨.agg vs.toArray,by simp [execOp,ho,hv,Instr.loadAt,Instr.sureAddr,hrun],jtm (by simp;omega) (fun j x hj=>?_)⟩
    rw [List.getElem?_map,List.getElem?_take] at hj
    split at hj
    ·rename_i hjs
     rw [List.getElem?_drop] at hj
     obtain ⟨u,hu⟩:∃u,vs[j]? = some u:=⟨vs[j]'(by omega),List.getElem?_eq_getElem (by omega)⟩
     obtain ⟨_,d,hd,h3⟩:=hc j u hu
     rw [hd] at hj;cases hj
     exact ⟨u,hu,h3.one,h3⟩
    ·cases hj
   ·cases h
  ·rename_i hA
   split at h
   ·rename_i hok
    rw [nth?_eq,Option.map_eq_some_iff] at h
    obtain ⟨d,hd,rfl⟩:=h
    obtain ⟨u,h1,h2⟩:=hcell' off d hd
    have hrun:=jkb (P:=C.P) (w:=w) (g:=g) (o:=o' + off) (vs:=[u]) hok (by rw [hsz1 hok (by simpa using hA)];rfl) (fun j u' hj=>by
     cases j with
     | zero=>simp at hj;subst hj;simpa using h1
     | succ j=>simp at hj)
    rw [if_neg hA] at hrun
    exact ⟨u,by simp [execOp,ho,hv,Instr.loadAt,Instr.sureAddr,hrun],h2⟩
   ·cases h
 ·cases h

theorem jkz {xs:List (List D)} {u:Value} {w:World} {T:Nat→Prop} (h:Rep w T (.l xs) u) {i:Nat} {r:List D} (hi:xs[i]? = some r) :
  ∃g o cap,u=.slice (some ⟨g,o,none⟩) xs.length cap∧T g∧∀j d,r[j]? = some d→∃x,w.cell? ⟨g,o+i * r.length+j,none⟩=some x∧Rep w T d x:=by
 cases h with
 | nil A cap=>simp at hi
 | l _ g o cap sz val hne hT hcap hsz hc hr =>
  have:r.length=sz:=hsz r (List.mem_of_getElem? hi)
  exact ⟨g,o,cap,rfl,hT,fun j d hj=>⟨val i j,by rw [this];exact hc i r j d hi hj,hr i r j d hi hj⟩⟩
theorem jxu {xs:List (List D)} {u:Value} {w:World} {T:Nat→Prop} (h:Rep w T (.l xs) u):∃A cap,u=.slice A xs.length cap:=by
 cases h with
 | nil A cap=>exact ⟨A,cap,rfl⟩
 | l _ g o cap sz val hne hT hcap hsz hc hr=>exact ⟨_,_,rfl⟩
theorem jsl {xs:List (List D)} {u:Value} {w:World} {e sz:Nat} {φ:Nat→Prop} (h:RowR w e sz φ xs u):∃A cap,u=.slice A xs.length cap:=by
 rcases h with ⟨rfl,rfl⟩ | ⟨g,o,cap,t,cur,val,ψ,rfl,_⟩
 ·exact ⟨none,0,rfl⟩
 ·exact ⟨_,_,rfl⟩

theorem jim {P:Program} {t el:TypeId} {zs:List D} {g o:Nat} {len cap:Nat} {k:IntKind} {n:Int} (ht:tyOf P t=.sl el) (hz:(tyOf P el).zeros=some zs) (h0:0≤n) (h1:n < len) :
  (Instr.indexAt t (.slice (some ⟨g,o,none⟩) len cap) (.int k n)).run P w=.ok (.pointer (some ⟨g,o+n.toNat * zs.length,none⟩)) w:=by
 obtain ⟨_,_,hu,_⟩:=jed ht
 obtain ⟨i,z,h2,h3,h4,_⟩:=jzb hz
 simp [Instr.indexAt,asIntOf,underlying,hu,h0,h1,sizeOf,typeInfo,h2,h4,jmb]

theorem jei {z x:D} (h:isD z x=true):etaD z x=x:=by
 cases z<;>cases x<;>simp_all [isD,etaD,asB,asI,asS,asL]
theorem isSc_is {z x:D} (h:isD z x=true) (hz:isSc z=true):isSc x=true:=by
 cases z<;>cases x<;>simp_all [isD,isSc]
theorem jkg:∀{xs:List D} {j:Nat},j < xs.length→xs[j]? = some (nthD xs j)
 | [],j,h=>by simp at h
 | x :: xs,0,h=>rfl
 | x :: xs,j+1,h=>by simpa [nthD] using jkg (xs:=xs) (j:=j) (by simpa using h)
theorem jfp:∀{zs:List D} {off:Nat} {xs:List D},isF zs off xs=true→off+zs.length≤xs.length→etaF zs off xs=(xs.drop off).take zs.length
 | [],off,xs,_,_=>by simp [etaF]
 | z :: zs,off,xs,h,hl=>by
  simp only [isF,Bool.and_eq_true] at h
  simp only [List.length_cons] at hl
  have hlt:off < xs.length:=by omega
  have hd:xs.drop off=nthD xs off :: xs.drop (off+1):=by
   rw [List.drop_eq_getElem_cons hlt]
   have:=jkg hlt
   rw [List.getElem?_eq_getElem hlt] at this
   rw [Option.some.inj this]
  rw [etaF,jei h.1,jfp h.2 (by omega),hd]
  simp
theorem jjz {zs xs:List D} (h:isRow zs xs=true):etaF zs 0 xs=xs∧xs.length=zs.length:=by
 simp only [isRow,Bool.and_eq_true,decide_eq_true_eq] at h
 refine ⟨?_,h.1⟩
 rw [jfp h.2 (by omega)]
 simp only [List.drop_zero]
 rw [←h.1,List.take_length]
theorem jit:∀{zs:List D} {off:Nat} {xs:List D},isF zs off xs=true→flatZ zs=true→∀j,j < zs.length→isSc (nthD xs (off+j))=true
 | [],off,xs,_,_,j,hj=>by simp at hj
 | z :: zs,off,xs,h,hf,j,hj=>by
  simp only [isF,Bool.and_eq_true] at h
  simp only [flatZ,Bool.and_eq_true] at hf
  cases j with
  | zero=>exact isSc_is h.1 hf.1
  | succ j=>rw [show off+(j+1)=off+1+j by omega];exact jit h.2 hf.2 j (by simpa using hj)

theorem jmi {t el:TypeId} {zs:List D} {x y:Operand} (H:Here C R G st a w p) (hs:Slots C R G st a [x,y]) (ho:o.op=.indexAddr t x y) (ht:tyOf C.P t=.sl el) (hz:(tyOf C.P el).zeros=some zs)
  {k:IntKind} {n:Int} (hy:ev C st p y=.d (.i k n)) :
  (∀xs,ev C st p x=.d (.l xs)→0≤n→n < xs.length→(xs.getD n.toNat []).length=zs.length→Does C R G st a w o (.pv (xs.getD n.toNat []) 0)) ∧
  (∀b e sz xs,ev C st p x=.own b→hlk st.h b=some (.row e sz xs)→sz=zs.length→0≤n→n < xs.length→Does C R G st a w o (.rp b n.toNat 0)):=by
 have hyv:=jpb (H.evE hs (x:=y) (by simp) hy)
 refine ⟨fun xs hx h0 h1 h2=>?_,fun b e sz xs hx hb hsz h0 h1=>?_⟩
 ·have hxv:=H.evE hs (x:=x) (by simp) hx
  have hlt:n.toNat < xs.length:=by omega
  have hi:xs[n.toNat]? = some (xs.getD n.toNat []):=by simp [List.getD_eq_getElem?_getD,hlt]
  obtain ⟨g,o',cap,hv,hT,hc⟩:=jkz hxv hi
  refine ⟨.pointer (some ⟨g,o' + n.toNat * zs.length,none⟩),by simp [execOp,ho,hv,hyv,jim ht hz h0 h1],g,o' + n.toNat * zs.length,rfl,hT,fun j d hj=>?_⟩
  have:=hc j d hj
  rw [h2] at this
  exact this
 ·obtain ⟨hl,hv,_⟩:=H.evE hs (x:=x) (by simp) hx
  obtain ⟨bb,hb',hr⟩:=H.B.rel b hl
  rw [hb] at hb';cases hb'
  obtain ⟨hr,_⟩:=hr
  rcases hr with (⟨_,rfl⟩ | ⟨g,o',cap,t',cur,val,ψ,hh,_⟩) | ⟨_,rfl,_⟩
  ·simp at h1;omega
  ·rw [hh] at hv
   exact ⟨.pointer (some ⟨g,o' + n.toNat * zs.length,none⟩),by simp [execOp,ho,hv,hyv,jim ht hz h0 h1],hl,e,sz,xs,hb,g,o',_,_,hh,by simp [hsz]⟩
  ·simp at h1;omega

theorem jvz {ty:Ty} (h:isAggTy ty=false):ty.size=1:=by cases ty<;>first | rfl | cases h
theorem ty_zok {ty:Ty} {zs:List D} (h:ty.zeros=some zs):okTy ty=true:=by cases ty<;>first | rfl | cases h
theorem jjv {t:TypeId} {x:Operand} {n i off e sz:Nat} {xs:List (List D)} {z:D} {zs:List D} (H:Here C R G st a w p) (hs:Slots C R G st a [x]) (ho:o.op=.load t x) (hx:ev C st p x=.rp n i off) (hb:hlk st.h n=some (.row e sz xs)) (hz:(tyOf C.P t).zeros=some (z :: zs)) (hf:flatZ (z :: zs)=true)
  (hl:off+(z :: zs).length≤(xs.getD i []).length) (hi:isF (z :: zs) off (xs.getD i [])=true) :
  Does C R G st a w o (if isAggTy (tyOf C.P t) then .agg ((etaF (z :: zs) off (xs.getD i [])).map .d) else .d (etaD z (nthD (xs.getD i []) off))):=by
 obtain ⟨hlive,e',sz',xs',hb',g,o',len,cap,hv,hu⟩:=H.evE hs (x:=x) (by simp) hx
 rw [hb] at hb';cases hb'
 obtain ⟨bb,hb',hr⟩:=H.B.rel n hlive
 rw [hb] at hb';cases hb'
 have hi0:i < xs.length:=by
  rw [List.getD_eq_getElem?_getD] at hl
  cases hxi:xs[i]? with
  | none=>rw [hxi] at hl;simp at hl
  | some r=>exact (List.getElem?_eq_some_iff.1 hxi).1
 have hrow:xs[i]? = some (xs.getD i []):=by simp [List.getD_eq_getElem?_getD,hi0]
 generalize xs.getD i []=r at hl hi hrow
 rcases hr.1 with (⟨_,rfl⟩ | ⟨g2,o2,cap2,t2,cur,val,ψ,hh,hg,hφ,hcap,hcur,hsz,hc,hψ,hd,hown⟩) | ⟨_,rfl,_⟩
 ·simp at hi0
 ·rw [hh] at hv
  cases hv
  have hlen:zs.length+1=(tyOf C.P t).size:=by
   obtain ⟨_,_,_,_,_,_,h7,_⟩:=jzb hz
   simpa using h7
  have hok:okTy (tyOf C.P t)=true:=ty_zok hz
  have cellOf:∀j,j < zs.length+1→∃u,w.cell? ⟨g,o' + i * sz+off+j,none⟩=some u∧Rep R.w0 R.T (nthD r (off+j)) u:=by
   intro j hj
   have hlt:off+j < r.length:=by simp only [List.length_cons] at hl;omega
   have hget:=jkg hlt
   refine ⟨val i (off+j),?_,?_⟩
   ·rw [cell_of_row w _ _ cur t2 (0,0) hg,show o' + i * sz+off+j=o' + i * sz+(off+j) by omega]
    exact hc i r (off+j) _ hrow hget
   ·have h1:=hown i r (off+j) _ hrow hget
    have h2:=jit hi hf j (by simpa using hj)
    generalize nthD r (off+j)=d at h1 h2
    generalize val i (off+j)=u at h1
    cases h1 with
    | b=>exact .b _
    | i=>exact .i _ _
    | s=>exact .s _
    | nil=>cases h2
    | l=>cases h2
  have hvs:∃vs:List Value,vs.length=zs.length+1∧∀j u,vs[j]? = some u→w.cell? ⟨g,o' + i * sz+off+j,none⟩=some u∧Rep R.w0 R.T (nthD r (off+j)) u:=by
   have:∀m,m≤zs.length+1→∃vs:List Value,vs.length=m∧∀j u,vs[j]? = some u→w.cell? ⟨g,o' + i * sz+off+j,none⟩=some u∧Rep R.w0 R.T (nthD r (off+j)) u:=by
    intro m
    induction m with
    | zero=>intro _;exact ⟨[],rfl,fun j u hj=>by simp at hj⟩
    | succ m ih =>
     intro hm
     obtain ⟨vs,h1,h2⟩:=ih (by omega)
     obtain ⟨u,h3,h4⟩:=cellOf m (by omega)
     refine ⟨vs++[u],by simp [h1],fun j u' hj=>?_⟩
     by_cases hjm:j < m
     ·rw [List.getElem?_append_left (by omega)] at hj;exact h2 j u' hj
     ·have:j=m:=by have:=(List.getElem?_eq_some_iff.1 hj).1;simp at this;omega
      subst this
      rw [List.getElem?_append_right (by omega),h1] at hj
      simp at hj
      subst hj
      exact ⟨h3,h4⟩
   exact this _ (Nat.le_refl _)
  obtain ⟨vs,hvl,hvc⟩:=hvs
  have hrun:=jkb (P:=C.P) (w:=w) (g:=g) (o:=o' + i * sz+off) hok (by rw [←hlen];exact hvl) (fun j u hj=>(hvc j u hj).1)
  have heta:etaF (z :: zs) off r=(r.drop off).take (z :: zs).length:=jfp hi hl
  have hget:∀j d,((r.drop off).take (z :: zs).length)[j]? = some d→d=nthD r (off+j)∧j < zs.length+1:=fun j d hj=>by
   rw [List.getElem?_take] at hj
   split at hj
   ·rename_i hjs
    rw [List.getElem?_drop] at hj
    have hlt:off+j < r.length:=(List.getElem?_eq_some_iff.1 hj).1
    rw [jkg hlt] at hj
    cases hj
    exact ⟨rfl,by simpa using hjs⟩
   ·cases hj
  split
  ·rename_i hA
   rw [if_pos hA] at hrun
   refine ⟨.agg vs.toArray,by simp [execOp,ho,hu,Instr.loadAt,Instr.sureAddr,hrun],jtm (by rw [heta];simp at hl ⊢;omega) (fun j x hj=>?_)⟩
   rw [List.getElem?_map,Option.map_eq_some_iff,heta] at hj
   obtain ⟨d,hj,rfl⟩:=hj
   obtain ⟨rfl,hj'⟩:=hget j d hj
   obtain ⟨u,hu'⟩:∃u,vs[j]? = some u:=⟨vs[j]'(by omega),List.getElem?_eq_getElem (by omega)⟩
   have h5:=(hvc j u hu').2
   exact ⟨u,hu',h5.one,h5⟩
  ·rename_i hA
   rw [if_neg hA] at hrun
   have hz0:zs=[]:=by
    have:(tyOf C.P t).size=1:=jvz (by simpa using hA)
    exact List.eq_nil_of_length_eq_zero (by omega)
   subst hz0
   obtain ⟨u,rfl⟩:∃u,vs=[u]:=by
    match vs,hvl with
    | [u],_=>exact ⟨u,rfl⟩
   have h5:=(hvc 0 u rfl).2
   simp only [isF,Bool.and_true] at hi
   rw [jei hi]
   exact ⟨u,by simp [execOp,ho,hu,Instr.loadAt,Instr.sureAddr,hrun],h5⟩
 ·simp at hi0

theorem jny {t:TypeId} {x:Operand} {n:Nat} (H:Here C R G st a w p) (hs:Slots C R G st a [x]) (ho:o.op=.call { callee:=.builtin .len,args:=#[x],argTypes:=#[t] })
  (h:lenOf st (tyOf C.P t) (ev C st p x)=some n):Does C R G st a w o (.d (.i .i64 n)):=by
 have hx:=H.ev hs (x:=x) (by simp)
 generalize ev C st p x=sx at hx h
 have key:(Builtin.len_ #[t] o.type #[a.eval x]).run C.P w=.ok (.int .i64 n) w:=by
  have slice:∀{e:TypeId},tyOf C.P t=.sl e→(∃A cap,a.eval x=.slice A n cap)→(Builtin.len_ #[t] o.type #[a.eval x]).run C.P w=.ok (.int .i64 n) w:=by
   intro e ht hA
   obtain ⟨_,_,hu,_⟩:=jed ht
   obtain ⟨A,cap,hA⟩:=hA
   rw [hA]
   simp [Builtin.len_,underlying,hu,goInt]
  unfold lenOf at h
  split at h
  ·rename_i s ht
   obtain ⟨_,_,hu,_⟩:=jii ht
   cases h
   rw [jnl hx]
   simp [Builtin.len_,underlying,hu,goInt]
  ·rename_i ht;cases h;exact slice ht (jxu hx)
  ·rename_i ht;cases h;exact slice ht ⟨none,0,hx⟩
  ·rename_i b ht
   obtain ⟨hl,hv,_⟩:=hx
   obtain ⟨bb,hb',hr⟩:=H.B.rel b hl
   rw [hb'] at h
   cases bb with
   | box cs=>cases h
   | row e sz xs=>cases h;exact slice ht (by rw [hv];exact hr.1.len)
  ·cases h
 exact ⟨.int .i64 n,by simp [execOp,ho,resolve,invoke,builtin,key],Rep.i _ _⟩
theorem jyz {ts:Array TypeId} {x y:Operand} {k k':IntKind} {m n:Int} (H:Here C R G st a w p) (hs:Slots C R G st a [x,y]) (ho:o.op=.call { callee:=.builtin .max,args:=#[x,y],argTypes:=ts })
  (hx:ev C st p x=.d (.i k m)) (hy:ev C st p y=.d (.i k' n)):Does C R G st a w o (.d (.i k (if n > m then n else m))) :=
 ⟨.int k (if n > m then n else m),by simp [execOp,ho,resolve,invoke,builtin,jpb (H.evE hs (x:=x) (by simp) hx),jpb (H.evE hs (x:=y) (by simp) hy),Builtin.max_,Builtin.max2],Rep.i _ _⟩
theorem jwy {ts:Array TypeId} {x y:Operand} {k k':IntKind} {m n:Int} (H:Here C R G st a w p) (hs:Slots C R G st a [x,y]) (ho:o.op=.call { callee:=.builtin .min,args:=#[x,y],argTypes:=ts })
  (hx:ev C st p x=.d (.i k m)) (hy:ev C st p y=.d (.i k' n)):Does C R G st a w o (.d (.i k (if n < m then n else m))) :=
 ⟨.int k (if n < m then n else m),by simp [execOp,ho,resolve,invoke,builtin,jpb (H.evE hs (x:=x) (by simp) hx),jpb (H.evE hs (x:=y) (by simp) hy),Builtin.min_,Builtin.min2],Rep.i _ _⟩

theorem jpd {P:Program} {k:IntKind} {n:Int} {y:Nat} {code:BoundsCode} (h0:0≤n) (h1:n≤y):(Instr.sliceBound (.int k n) y code).run P w=.ok n.toNat w:=by
 simp [Instr.sliceBound,asIntOf,h0,h1]
theorem jju {xs:List (List D)} {A:Option Addr} {len cap l hi sz:Nat} {T:Nat→Prop} {w:World} (h:Rep w T (.l xs) (.slice A len cap)) (hl:l≤hi) (hh:hi≤xs.length) (hz:∀r,xs[0]? = some r→r.length=sz) :
  Rep w T (.l ((xs.take hi).drop l)) (.slice (if cap=l then A else A.map (·.add (l * sz))) (hi - l) (cap - l)):=by
 by_cases he:hi=l
 ·subst he
  have:(xs.take hi).drop hi=[]:=by simp
  rw [this,Nat.sub_self]
  exact .nil _ _
 ·cases h with
  | nil A cap=>simp at hh;omega
  | l _ g o _ sz' val hne hT hcap hsz hc hr =>
   have hpos:0 < xs.length:=by omega
   have hs0:sz'=sz:=by
    have h0:xs[0]? = some xs[0]:=List.getElem?_eq_getElem hpos
    rw [←hz _ h0];exact (hsz _ (List.getElem_mem hpos)).symm
   subst hs0
   rw [if_neg (by omega)]
   simp only [Option.map_some,jmb]
   have hlen:((xs.take hi).drop l).length=hi - l:=by simp;omega
   have hget:∀i r,((xs.take hi).drop l)[i]? = some r→xs[l+i]? = some r:=by
    intro i r hi'
    rw [List.getElem?_drop,List.getElem?_take] at hi'
    split at hi'
    ·exact hi'
    ·cases hi'
   have:=Rep.l (w:=w) (T:=T) ((xs.take hi).drop l) g (o+l * sz') (cap - l) sz' (fun i j=>val (l+i) j) (by intro h;rw [h] at hlen;simp at hlen;omega) hT (by rw [hlen];omega)
    (fun r hr'=>hsz r (List.mem_of_mem_take (List.mem_of_mem_drop hr')))
    (fun i r j d h1 h2=>by rw [show o+l * sz' + i * sz' + j=o+(l+i) * sz' + j by rw [Nat.add_mul];omega];exact hc (l+i) r j d (hget i r h1) h2)
    (fun i r j d h1 h2=>hr (l+i) r j d (hget i r h1) h2)
   rw [hlen] at this
   exact this
theorem jcs {t:TypeId} {zo:Option (List D)} (h:zsOf C t=some zo):(zo=none∧tyOf C.P t=.str)∨∃zs e,zo=some zs∧tyOf C.P t=.sl e∧(tyOf C.P e).zeros=some zs:=by
 unfold zsOf at h
 split at h
 ·rename_i e he
  rw [Option.map_eq_some_iff] at h
  obtain ⟨zs,h1,rfl⟩:=h
  exact .inr ⟨zs,e,rfl,he,h1⟩
 ·rename_i he;cases h;exact .inl ⟨rfl,he⟩
 ·cases h
end Go.Den

/- Slicing, building, comparing structs, bytes to a string. -/
namespace Go.Den
open Go
variable {C:Ctx} {R:Rt} {G:Gh} {st:St} {a:Act} {w:World} {p:Path} {o:Oper} {v:SV}

theorem jwc {P:Program} {isS:Bool} {len cap:Nat} {lo hi:Option Value} {l h:Nat} (hh:(hi=none∧h=len)∨∃k n,hi=some (.int k n)∧0≤n∧n.toNat=h) (hl:(lo=none∧l=0)∨∃k n,lo=some (.int k n)∧0≤n∧n.toNat=l)
  (h1:l≤h) (h2:h≤cap):(Instr.sliceBounds isS len cap lo hi none).run P w=.ok (l,h,cap) w:=by
 rcases hh with ⟨rfl,rfl⟩ | ⟨k,n,rfl,hn,rfl⟩<;>rcases hl with ⟨rfl,rfl⟩ | ⟨k',n',rfl,hn',rfl⟩
 ·simp [Instr.sliceBounds]
 ·simp [Instr.sliceBounds,jpd (P:=P) (w:=w) (k:=k') (n:=n') (y:=h) hn' (by omega)]
 ·simp [Instr.sliceBounds,jpd (P:=P) (w:=w) (k:=k) (n:=n) (y:=cap) hn (by omega)]
 ·simp [Instr.sliceBounds,jpd (P:=P) (w:=w) (k:=k) (n:=n) (y:=cap) hn (by omega),jpd (P:=P) (w:=w) (k:=k') (n:=n') (y:=n.toNat) hn' (by omega)]
def ivOf (C:Ctx) (st:St) (p:Path):Option Operand→Option (Option Int)
 | none=>some none
 | some x=>match ev C st p x with | .d (.i _ n)=>some (some n) | _=>none
theorem jhx (H:Here C R G st a w p) {xs:List Operand} (hs:Slots C R G st a xs) {x:Option Operand} (hx:∀y,x=some y→y∈xs) {n:Option Int} (h:ivOf C st p x=some n) :
  match n with | none=>x.map a.eval=none | some n=>∃k,x.map a.eval=some (.int k n):=by
 cases x with
 | none=>simp [ivOf] at h;subst h;rfl
 | some y =>
  have hy:=H.ev hs (hx y rfl)
  unfold ivOf at h
  dsimp only at h
  split at h
  ·rename_i k n hk
   cases h
   rw [hk] at hy
   exact ⟨k,by simp [jpb hy]⟩
  ·cases h

theorem jcv {t:TypeId} {x:Operand} {lo hi:Option Operand} {zo:Option (List D)} {d r:D} {l:Int} {h:Option Int} (H:Here C R G st a w p) {xs:List Operand} (hs:Slots C R G st a xs) (hx:x∈xs) (hlo:∀y,lo=some y→y∈xs) (hhi:∀y,hi=some y→y∈xs)
  (ho:o.op=.slice t x lo hi none) (hz:zsOf C t=some zo) (hd:ev C st p x=.d d) {l0:Option Int} (hl:ivOf C st p lo=some l0) (hl0:l=l0.getD 0) (hh:ivOf C st p hi=some h) (hr:sliceD (some zo) d l h=some (true,r)) :
  Does C R G st a w o (.d r):=by
 have hxv:=H.evE hs hx hd
 have hlv:=jhx H hs hlo hl
 have hhv:=jhx H hs hhi hh
 have bl:∀{n:Nat},l.toNat=n→0≤l→((lo.map a.eval=none∧n=0)∨∃k m,lo.map a.eval=some (.int k m)∧0≤m∧m.toNat=n):=by
  intro n hn h0
  cases l0 with
  | none=>exact .inl ⟨hlv,by simp at hl0;omega⟩
  | some m=>obtain ⟨k,hk⟩:=hlv;exact .inr ⟨k,m,hk,by simp at hl0;omega,by simp at hl0;omega⟩
 unfold sliceD at hr
 split at hr
 ·rename_i s heq
  cases heq
  rcases jcs hz with ⟨_,ht⟩ | ⟨_,_,h0,_⟩
  case inr=>cases h0
  obtain ⟨_,_,hu,_⟩:=jii ht
  have hv:a.eval x=.string s:=jnl hxv
  split at hr
  ·rename_i h
   simp only [Option.some.injEq,Prod.mk.injEq,decide_eq_true_eq] at hr
   obtain ⟨⟨h0,h1,h2⟩,rfl⟩:=hr
   obtain ⟨k,hk⟩:=hhv
   have hb:=jwc (P:=C.P) (w:=w) (isS:=false) (len:=s.size) (cap:=s.size) (.inr ⟨k,h,hk,by omega,rfl⟩) (bl rfl h0) (by omega) (by omega)
   exact ⟨.string (s.extract l.toNat h.toNat),by simp [execOp,ho,hv,Instr.sliceAt,Instr.slice,underlying,hu,hb],Rep.s _⟩
  ·simp only [Option.some.injEq,Prod.mk.injEq,decide_eq_true_eq] at hr
   obtain ⟨⟨h0,h1⟩,rfl⟩:=hr
   have hb:=jwc (P:=C.P) (w:=w) (isS:=false) (len:=s.size) (cap:=s.size) (.inl ⟨hhv,rfl⟩) (bl rfl h0) (by omega) (by omega)
   exact ⟨.string (s.extract l.toNat s.size),by simp [execOp,ho,hv,Instr.sliceAt,Instr.slice,underlying,hu,hb],Rep.s _⟩
 ·rename_i zs rows heq
  cases heq
  rcases jcs hz with ⟨h0,_⟩ | ⟨_,e,h0,ht,hze⟩
  ·cases h0
  cases h0
  obtain ⟨_,_,hu,_⟩:=jed ht
  obtain ⟨i,z,hi1,_,hi2,_⟩:=jzb hze
  obtain ⟨A,cap,hv⟩:=jxu hxv
  rw [hv] at hxv
  have hcap:rows.length≤cap∨rows.length=0:=by
   cases hxv with
   | nil A cap=>exact .inr rfl
   | l _ g o _ sz val hne hT hc _ _ _=>exact .inl hc
  split at hr
  ·rename_i h
   simp only [Option.some.injEq,Prod.mk.injEq,decide_eq_true_eq] at hr
   obtain ⟨⟨h0,h1,h2,h3⟩,rfl⟩:=hr
   obtain ⟨k,hk⟩:=hhv
   have hb:=jwc (P:=C.P) (w:=w) (isS:=true) (len:=rows.length) (cap:=cap) (.inr ⟨k,h,hk,by omega,rfl⟩) (bl rfl h0) (by omega) (by omega)
   have hrep:=jju (sz:=zs.length) hxv (l:=l.toNat) (hi:=h.toNat) (by omega) (by omega) (fun r hr=>by rw [←h3];simp [List.getD_eq_getElem?_getD,hr])
   exact ⟨_,by simp [execOp,ho,hv,Instr.sliceAt,Instr.slice,underlying,hu,hb,sizeOf,typeInfo,hi1,hi2],hrep⟩
  ·simp only [Option.some.injEq,Prod.mk.injEq,decide_eq_true_eq] at hr
   obtain ⟨⟨h0,h1,h3⟩,rfl⟩:=hr
   have hb:=jwc (P:=C.P) (w:=w) (isS:=true) (len:=rows.length) (cap:=cap) (.inl ⟨hhv,rfl⟩) (bl rfl h0) (by omega) (by omega)
   have hrep:=jju (sz:=zs.length) hxv (l:=l.toNat) (hi:=rows.length) (by omega) (by omega) (fun r hr=>by rw [←h3];simp [List.getD_eq_getElem?_getD,hr])
   rw [List.take_length] at hrep
   exact ⟨_,by simp [execOp,ho,hv,Instr.sliceAt,Instr.slice,underlying,hu,hb,sizeOf,typeInfo,hi1,hi2],hrep⟩
 ·cases hr
theorem RowX.cap_le {w:World} {e sz:Nat} {φ:Nat→Prop} {xs:List (List D)} {A:Option Addr} {len cap:Nat} (h:RowX w e sz φ xs (.slice A len cap)):len=xs.length∧(xs.length≤cap∨xs.length=0):=by
 rcases h with (⟨h1,h2⟩ | ⟨g,o,cap,t,cur,val,ψ,h,_,_,hcap,_⟩) | ⟨_,h1,A,cap,h⟩
 ·cases h1;cases h2;exact ⟨rfl,.inr rfl⟩
 ·cases h;exact ⟨rfl,.inl hcap⟩
 ·cases h;cases h1;exact ⟨rfl,.inr rfl⟩
theorem does_view {t:TypeId} {x hi:Operand} {n e sz:Nat} {xs:List (List D)} {zs:List D} {ki:IntKind} {h:Int} (H:Here C R G st a w p) (hs:Slots C R G st a [x,hi]) (ho:o.op=.slice t x none (some hi) none) (hz:zsOf C t=some (some zs)) (hx:ev C st p x=.own n) (hh:ev C st p hi=.d (.i ki h)) (hb:hlk st.h n=some (.row e sz xs)) (h0:0≤h) (h1:h≤xs.length) :
  Does C R G st a w o (.ov n h.toNat):=by
 obtain ⟨hlive,hv,_⟩:=H.evE hs (x:=x) (by simp) hx
 have hhi:=H.evE hs (x:=hi) (by simp) hh
 have hhi:a.eval hi=.int ki h:=jpb hhi
 obtain ⟨bb,hb',hr⟩:=H.B.rel n hlive
 rw [hb] at hb';cases hb'
 obtain ⟨A,cap,hlen⟩:=hr.1.len
 have hr1:=hr.1
 rw [hlen] at hr1
 obtain ⟨_,hcap⟩:=hr1.cap_le
 rw [hlen] at hv
 rcases jcs hz with ⟨h2,_⟩ | ⟨zs',e',h2,ht,hze⟩
 ·cases h2
 obtain ⟨_,_,hu,_⟩:=jed ht
 obtain ⟨i,z,hi1,_,hi2,_⟩:=jzb hze
 have hbd:=jwc (P:=C.P) (w:=w) (isS:=true) (len:=xs.length) (cap:=cap) (hi:=some (.int ki h)) (lo:=none) (l:=0) (h:=h.toNat) (.inr ⟨ki,h,rfl,h0,rfl⟩) (.inl ⟨rfl,rfl⟩) (by omega) (by omega)
 refine ⟨.slice A h.toNat cap,?_,hlive,A,xs.length,cap,hlen,by omega,rfl⟩
 have hA:(if cap=0 then A else A.map (·.add (0 * i.size)))=A:=by
  split
  ·rfl
  ·cases A with
   | none=>rfl
   | some ad=>simp [Addr.add]
 simp [execOp,ho,hv,hhi,Instr.sliceAt,Instr.slice,underlying,hu,hbd,sizeOf,typeInfo,hi1]
 simpa using hA
theorem jfw {t:TypeId} {x:Operand} {f off:Nat} {cs:List SV} {r:SV} (H:Here C R G st a w p) (hs:Slots C R G st a [x]) (ho:o.op=.field t x f) (h:fieldOff (tyOf C.P t) f=some off) (hf:jep C.P t f=true) (hx:ev C st p x=.agg cs) (hr:nth? cs off=some r) :
  Does C R G st a w o r:=by
 obtain ⟨vs,hv,hl,hc⟩:=H.evE hs (x:=x) (by simp) hx
 rw [nth?_eq] at hr
 obtain ⟨u,h1,h2,h3⟩:=hc off r hr
 unfold fieldOff at h
 split at h
 ·rename_i fs zs hk
  obtain ⟨F,i,cs',hi,hu,h5,h6,h7,h8⟩:=jin hk
  simp only [Option.map_eq_some_iff] at h
  obtain ⟨e,he,rfl⟩:=h
  obtain ⟨fl,i',h9,h10,h11,h12,h13⟩:=jcn h7 f e he
  have h9':F[f]? = some fl:=by simpa using h9
  rw [h11] at h1
  have hagg:(isAgg fl.type).run C.P w=.ok false w:=by
   unfold jep at hf
   rw [hu] at hf
   simp only [h9'] at hf
   unfold isAgg
   rw [Sem.run_bind]
   cases hq:C.P.underlying fl.type with
   | none=>rw [hq] at hf;cases hf
   | some d=>rw [hq] at hf;rw [run_underlying hq w];cases d<;>simp_all
  exact ⟨u,by simp [execOp,ho,hv,Instr.field,underlying,hu,h9',asAgg,part,hagg,h1],jfc h3⟩
 ·cases h

theorem does_fieldA {t:TypeId} {x:Operand} {f off sz:Nat} {cs:List SV} (H:Here C R G st a w p) (hs:Slots C R G st a [x]) (ho:o.op=.field t x f) (h:fieldOff (tyOf C.P t) f=some off) (hf:fieldAg C.P t f=some sz) (hx:ev C st p x=.agg cs) (hr:off+sz≤cs.length) :
  Does C R G st a w o (.agg ((cs.drop off).take sz)):=by
 obtain ⟨vs,hv,hl,hc⟩:=H.evE hs (x:=x) (by simp) hx
 unfold fieldOff at h
 split at h
 ·rename_i fs zs hk
  obtain ⟨F,i,cs',hi,hu,h5,h6,h7,h8⟩:=jin hk
  simp only [Option.map_eq_some_iff] at h
  obtain ⟨e,he,rfl⟩:=h
  obtain ⟨fl,i',h9,h10,h11,h12,h13⟩:=jcn h7 f e he
  have h9':F[f]? = some fl:=by simpa using h9
  unfold fieldAg at hf
  rw [hu] at hf
  simp only [h9'] at hf
  split at hf
  ·rename_i F2 i2 hq hi2
   cases hf
   have hagg:(isAgg fl.type).run C.P w=.ok true w:=by
    unfold isAgg
    rw [Sem.run_bind,run_underlying hq w]
    simp
   have hsz:(sizeOf fl.type).run C.P w=.ok i2.size w:=by simp [sizeOf,typeInfo,hi2]
   refine ⟨.agg ((vs.drop e.1).take i2.size).toArray,?_,jtm (by simp;omega) (fun j y hj=>?_)⟩
   ·have e2:vs.toArray.extract e.1 (e.1+i2.size)=((vs.drop e.1).take i2.size).toArray:=by
     rw [List.extract_toArray,List.extract_eq_take_drop,Nat.add_sub_cancel_left]
    simp [execOp,ho,hv,Instr.field,underlying,hu,h9',asAgg,part,Sem.run_bind,hagg,hsz,←h11,e2]
   ·rw [List.getElem?_take] at hj
    split at hj
    ·rename_i hjs
     rw [List.getElem?_drop] at hj
     obtain ⟨u,k1,k2,k3⟩:=hc _ y hj
     exact ⟨u,by rw [List.getElem?_take,if_pos hjs,List.getElem?_drop];exact k1,k2,k3⟩
    ·cases hj
  ·cases hf
 ·cases h
theorem jxb:∀(cs:List SV) (o:Nat) (vs:List SV),o+vs.length≤cs.length→(setRange cs o vs).length=cs.length ∧
  ∀j,(setRange cs o vs)[j]? = if o≤j∧j < o+vs.length then vs[j - o]? else cs[j]?
 | cs,0,[],h=>by cases cs<;>simp [setRange]
 | [],0,v :: vs,h=>by simp at h
 | c :: cs,0,v :: vs,h=>by
  obtain ⟨h1,h2⟩:=jxb cs 0 vs (by simp at h ⊢;omega)
  refine ⟨by simp [setRange,h1],fun j=>?_⟩
  cases j with
  | zero=>simp [setRange]
  | succ j =>
   simp only [setRange,List.getElem?_cons_succ,h2 j,Nat.zero_le,true_and,Nat.zero_add,List.length_cons,Nat.sub_zero]
   by_cases hj:j < vs.length
   ·simp [hj]
   ·rw [if_neg hj,if_neg (by omega)]
 | c :: cs,o+1,vs,h=>by
  obtain ⟨h1,h2⟩:=jxb cs o vs (by simp at h;omega)
  refine ⟨by simp [setRange,h1],fun j=>?_⟩
  cases j with
  | zero=>simp [setRange]
  | succ j =>
   simp only [setRange,List.getElem?_cons_succ,h2 j]
   by_cases hj:o≤j∧j < o+vs.length
   ·rw [if_pos hj,if_pos (by omega),show j+1 - (o+1)=j - o by omega]
   ·rw [if_neg hj,if_neg (by omega)]
 | [],o+1,vs,h=>by simp at h
theorem jmk (off:Nat):∀(vs:List Value) (k:Nat) (cells:Array Value),off+k+vs.length≤cells.size →
  ((vs.zipIdx k).foldl (fun cs (x:Value × Nat)=>cs.setIfInBounds (off+x.2) x.1) cells).size=cells.size ∧
  ∀j,((vs.zipIdx k).foldl (fun cs (x:Value × Nat)=>cs.setIfInBounds (off+x.2) x.1) cells)[j]? = if off+k≤j∧j < off+k+vs.length then vs[j - (off+k)]? else cells[j]?
 | [],k,cells,h=>by simp;intro j h1 h2;omega
 | v :: vs,k,cells,h=>by
  obtain ⟨h1,h2⟩:=jmk off vs (k+1) (cells.setIfInBounds (off+k) v) (by simp at h ⊢;omega)
  simp only [List.zipIdx_cons,List.foldl_cons]
  refine ⟨by rw [h1];simp,fun j=>?_⟩
  rw [h2 j]
  simp only [List.length_cons] at h ⊢
  by_cases hj:j=off+k
  ·subst hj
   rw [if_neg (by omega),if_pos (by omega),Nat.sub_self]
   simp [Array.getElem?_setIfInBounds,show off+k < cells.size by omega]
  ·by_cases h3:off+(k+1)≤j∧j < off+(k+1)+vs.length
   ·rw [if_pos h3,if_pos (by omega),show j - (off+k)=(j - (off+(k+1)))+1 by omega,List.getElem?_cons_succ]
   ·rw [if_neg h3,if_neg (by omega),Array.getElem?_setIfInBounds,if_neg (by omega)]
theorem jar {h:List (Nat × Blk)} {x:SV} {u:Value} (hx:VRel R G h x u) (hn:∀vs,x≠.tup vs) (hu:x≠.undef):u.cells.size=(cellsOf x).length∧∀(j:Nat) c,(cellsOf x)[j]? = some c→∃y,u.cells[j]? = some y∧y.oneCell'=true∧CRel R G h c y:=by
 have one:∀{x:SV},CRel R G h x u→u.oneCell'=true→cellsOf x=[x]→u.cells.size=(cellsOf x).length∧∀(j:Nat) c,(cellsOf x)[j]? = some c→∃y,u.cells[j]? = some y∧y.oneCell'=true∧CRel R G h c y:=by
  intro x hx ho hc
  have hcs:u.cells=#[u]:=by cases u<;>first | rfl | cases ho
  rw [hc,hcs]
  refine ⟨rfl,fun j c hj=>?_⟩
  cases j with
  | zero=>simp at hj;subst hj;exact ⟨u,rfl,ho,hx⟩
  | succ j=>simp at hj
 cases x with
 | agg cs =>
  obtain ⟨vs,rfl,hl,hc⟩:=hx
  exact ⟨by simp [Value.cells,cellsOf,hl],fun j c hj=>by obtain ⟨y,h1,h2,h3⟩:=hc j c hj;exact ⟨y,by simpa [Value.cells] using h1,h2,h3⟩⟩
 | tup vs=>exact absurd rfl (hn vs)
 | undef=>exact absurd rfl hu
 | d x=>exact one (x:=.d x) hx hx.one rfl
 | nils=>exact one (x:=.nils) hx (by rw [show u=_ from hx];rfl) rfl
 | own n=>exact one (x:=.own n) hx hx.2.2 rfl
 | ptr n o=>exact one (x:=.ptr n o) hx (by rw [hx.2];rfl) rfl
 | nilp=>exact one (x:=.nilp) hx (by rw [show u=_ from hx];rfl) rfl
 | pv cs o=>exact one (x:=.pv cs o) hx (by obtain ⟨g,o,h1,_⟩:=hx;rw [h1];rfl) rfl
 | rp n i o=>exact one (x:=.rp n i o) hx (by obtain ⟨_,e,sz,xs,_,g,o,len,cap,_,h1⟩:=hx;rw [h1];rfl) rfl
 | ov n k=>exact one (x:=.ov n k) hx (by obtain ⟨_,A,len,cap,_,_,h1⟩:=hx;rw [h1];rfl) rfl
 | fn f=>exact one (x:=.fn f) hx (by rw [show u=_ from hx];rfl) rfl
 | op b cs=>exact one (x:=.op b cs) hx (by cases b with | true=>exact (hx.1 rfl).one | false=>rw [hx.2 rfl];rfl) rfl
 | fp f n o=>exact one (x:=.fp f n o) hx (by rw [hx.2];rfl) rfl
 | fb f cs=>exact one (x:=.fb f cs) hx (by obtain ⟨p,h1,_⟩:=hx;rw [h1];rfl) rfl
 | bx n j x=>exact one (x:=.bx n j x) hx hx.2.one rfl
end Go.Den

/- Building a struct; bytes to a string; structs compared. -/
namespace Go.Den
open Go
variable {C:Ctx} {R:Rt} {G:Gh} {st:St} {a:Act} {w:World} {p:Path} {o:Oper} {v:SV}

theorem jpm {P:Program}:∀{F:List Field} {fs:List (Nat × Nat)},fsOf P F=some fs→F.mapM (fun f=>(P.info? f.type).map fun i=>(f.offset,i.size))=some fs
 | [],fs,h=>by simp [fsOf] at h;subst h;rfl
 | fl :: F,fs,h=>by
  simp only [fsOf] at h
  split at h
  ·rename_i i r h1 h2
   split at h
   ·cases h
   ·cases h
    simp [List.mapM_cons,h1,jpm h2]
  ·cases h
def jqo (R:Rt) (G:Gh) (h:List (Nat × Blk)) (cs:List SV) (A:Array Value):Prop :=
 A.size=cs.length∧∀(j:Nat) c,cs[j]? = some c→∃y,A[j]? = some y∧y.oneCell'=true∧CRel R G h c y
theorem jue {h:List (Nat × Blk)}:∀{zs:List D} {vs:List Value},zs.length=vs.length→(∀(j:Nat) z,zs[j]? = some z→∃v,vs[j]? = some v∧jzl v=some z)→jqo R G h (svZs zs) vs.toArray
 | [],[],_,_=>⟨rfl,fun j c hj=>by simp [svZs] at hj⟩
 | z :: zs,v :: vs,hl,hz=>by
  obtain ⟨h1,h2⟩:=jue (h:=h) (zs:=zs) (vs:=vs) (by simpa using hl) (fun j z hj=>by simpa using hz (j+1) z (by simpa using hj))
  refine ⟨by simpa [svZs] using h1,fun j c hj=>?_⟩
  cases j with
  | zero =>
   obtain ⟨v',hv',hzv⟩:=hz 0 z rfl
   simp at hv';subst hv'
   simp [svZs] at hj;subst hj
   obtain ⟨hr,hn,_⟩:=jiq hzv R.w0 R.T
   refine ⟨v,by simp,hr.one,?_⟩
   unfold svZ
   split
   ·exact hn rfl
   ·exact hr
  | succ j =>
   simp [svZs] at hj
   obtain ⟨y,h3,h4⟩:=h2 j c hj
   exact ⟨y,by simpa using h3,h4⟩
 | [],_ :: _,hl,_=>by simp at hl
 | _ :: _,[],hl,_=>by simp at hl
theorem jmo (H:Here C R G st a w p) {xs:List Operand} (hs:Slots C R G st a xs) {fs:List (Nat × Nat)}:∀(parts:List (Nat × Operand)) (cs cs':List SV) (A:Array Value),(∀q∈parts,q.2∈xs)→jqo R G st.h cs A →
  fillB C st p fs parts cs=some cs'→∃A',Instr.fill (fs.toArray[·]?) A (parts.map fun q=>(q.1,a.eval q.2))=some A'∧jqo R G st.h cs' A'
 | [],cs,cs',A,_,hA,h=>by simp only [fillB,Option.some.injEq] at h;subst h;exact ⟨A,rfl,hA⟩
 | (i,x) :: r,cs,cs',A,hp,hA,h=>by
  simp only [fillB] at h
  split at h
  ·rename_i f hf
   split at h
   ·rename_i hc
    obtain ⟨hok,hc1,hc2⟩:=hc
    have hx:=H.ev hs (hp (i,x) (by simp))
    dsimp only at hx
    obtain ⟨h1,h2⟩:=jar hx (by intro vs e;rw [e] at hok;cases hok) (by intro e;rw [e] at hok;cases hok)
    have hf':fs[i]? = some f:=by rw [←nth?_eq];exact hf
    have hfold:∃A2,((a.eval x).cells.zipIdx.foldl (fun cs (c,j)=>cs.setIfInBounds (f.1+j) c) A)=A2∧A2.size=A.size∧∀j,A2[j]? = if f.1≤j∧j < f.1+(a.eval x).cells.size then (a.eval x).cells[j - f.1]? else A[j]?:=by
     refine ⟨_,rfl,?_⟩
     have hle:f.1+0+(a.eval x).cells.toList.length≤A.size:=by rw [hA.1];simp;omega
     obtain ⟨h3,h4⟩:=jmk f.1 (a.eval x).cells.toList 0 A hle
     rw [←Array.foldl_toList,Array.toList_zipIdx]
     exact ⟨h3,fun j=>by rw [h4 j];simp⟩
    obtain ⟨A2,hA2,h3,h4⟩:=hfold
    obtain ⟨h5,h6⟩:=jxb cs f.1 (cellsOf (ev C st p x)) hc2
    have hA2':jqo R G st.h (setRange cs f.1 (cellsOf (ev C st p x))) A2:=by
     refine ⟨by rw [h3,hA.1,h5],fun j c hj=>?_⟩
     rw [h6 j] at hj
     rw [h4 j,h1]
     split at hj
     ·rename_i hr;rw [if_pos hr];exact h2 _ c hj
     ·rename_i hr;rw [if_neg hr];exact hA.2 j c hj
    obtain ⟨A',h7,h8⟩:=jmo H hs r _ cs' A2 (fun q hq=>hp q (by simp [hq])) hA2' h
    refine ⟨A',?_,h8⟩
    simp only [List.map_cons,Instr.fill]
    have:fs.toArray[i]? = some (f.1,f.2):=by simpa using hf'
    rw [this]
    simp only []
    rw [if_neg (by simp;rw [h1,hA.1];omega),hA2]
    exact h7
   ·cases h
  ·cases h
theorem jmv {t:TypeId} {parts:Array (Nat × Operand)} {fs:List (Nat × Nat)} {zs:List D} {cs:List SV} (H:Here C R G st a w p) (hs:Slots C R G st a (parts.toList.map (·.2))) (ho:o.op=.build t parts)
  (ht:tyOf C.P t=.st fs zs) (h:fillB C st p fs parts.toList (svZs zs)=some cs):Does C R G st a w o (.agg cs):=by
 obtain ⟨F,i,c0,hi,hu,hz,h1,h2,h3⟩:=jin ht
 obtain ⟨h4,h5⟩:=jui h1
 obtain ⟨A',hA,hR⟩:=jmo H hs parts.toList (svZs zs) cs c0 (fun q hq=>List.mem_map_of_mem hq) (by have:=jue (R:=R) (G:=G) (h:=st.h) h4 h5;simpa using this) h
 have hb:C.P.built t (parts.map fun (i,x)=>(i,a.eval x)).toList=some A':=by
  unfold Program.built
  rw [hi,hu]
  simp only [hz,jpm h2,Value.cells]
  rw [←hA]
  congr 1
  simp
 refine ⟨.agg A',by simp [execOp,ho];rw [run_build w t _ A' hb];rfl,A'.toList,by simp,hR.1,fun j c hj=>?_⟩
 obtain ⟨y,h6,h7⟩:=hR.2 j c hj
 exact ⟨y,by simpa using h6,h7⟩
end Go.Den

/- Bytes to a string; structs compared. -/
namespace Go.Den
open Go
variable {C:Ctx} {R:Rt} {G:Gh} {st:St} {a:Act} {w:World} {p:Path} {o:Oper} {v:SV}

theorem jsz {xs:List (List D)} (h:isBytes xs=true):∃ns:List Int,xs=ns.map (fun n=>[D.i .u8 n])∧bytesD xs=ns.map fun n=>UInt8.ofNat n.toNat:=by
 induction xs with
 | nil=>exact ⟨[],rfl,rfl⟩
 | cons x xs ih =>
  unfold isBytes at h
  split at h
  ·rename_i heq;cases heq
  ·rename_i n r heq
   cases heq
   obtain ⟨ns,h1,h2⟩:=ih h
   exact ⟨n :: ns,by simp [h1],by simp [bytesD,h2]⟩
  ·cases h
theorem jkv {s t e:TypeId} {x:Operand} {n e':Nat} {xs:List (List D)} (H:Here C R G st a w p) (hs:Slots C R G st a [x]) (ho:o.op=.convert s t x) (h1:tyOf C.P s=.sl e) (h2:tyOf C.P t=.str) (h3:tyOf C.P e=.int .u8)
  (hx:ev C st p x=.own n) (hwk:e'≠wk) (hn:hlk st.h n=some (.row e' 1 xs)) (hb:isBytes xs=true):Does C R G st a w o (.d (.s ⟨(bytesD xs).toArray⟩)):=by
 obtain ⟨hl,hv,_⟩:=H.evE hs (x:=x) (by simp) hx
 obtain ⟨bb,hb',hr⟩:=H.B.rel n hl
 rw [hn] at hb';cases hb'
 obtain ⟨hr,_⟩:=hr
 obtain ⟨_,_,u1,_⟩:=jed h1
 obtain ⟨_,_,u2,_⟩:=jii h2
 obtain ⟨_,_,u3,_⟩:=jkk h3
 obtain ⟨ns,hns,hby⟩:=jsz hb
 have key:(convert s t (a.eval x)).run C.P w=.ok (.string ⟨(bytesD xs).toArray⟩) w:=by
  rw [hv]
  rcases hr.row hwk with ⟨hh,rfl⟩ | ⟨g,o',cap,t',cur,val,ψ,hh,hg,hφ,hcap,hcur,hsz,hc,_,_,hown⟩
  ·rw [hh,run_convert_bytes_string w s t e none 0 0 u1 u3 u2]
   rfl
  ·rw [hh,run_convert_bytes_string w s t e _ _ _ u1 u3 u2]
   have hload:(loadCells ⟨g,o',none⟩ xs.length).run C.P w=.ok (ns.map (Value.int .u8)).toArray w:=by
    have:=run_loadCells_list (P:=C.P) w ⟨g,o',none⟩ (ns.map (Value.int .u8)) (fun j u hj=>by
     rw [jmb,cell_of_row w _ _ cur t' (0,0) hg]
     simp only [List.getElem?_map,Option.map_eq_some_iff] at hj
     obtain ⟨m,hm,rfl⟩:=hj
     have hxj:xs[j]? = some [D.i .u8 m]:=by rw [hns];simp [hm]
     have h5:=hc j [D.i .u8 m] 0 (D.i .u8 m) hxj rfl
     have h6:=hown j [D.i .u8 m] 0 (D.i .u8 m) hxj rfl
     have h7:val j 0=.int .u8 m:=by generalize val j 0=z at h6;cases h6;rfl
     rw [h7] at h5
     simpa using h5)
    simpa [hns] using this
   rw [run_bytesToString w ⟨g,o',none⟩ xs.length cap ns hload,foldl_push_bytes,hby]
   simp
 exact ⟨.string ⟨(bytesD xs).toArray⟩,by simp [execOp,ho,key],Rep.s _⟩

def eqDs:List Nat→List D→List D→Option Bool
 | [],[],[]=>some true
 | k :: ks,x :: xs,y :: ys=>(match eqC k x y,eqDs ks xs ys with | some a,some b=>some (a&&b) | _,_=>none)
 | _,_,_=>none
theorem jtn:∀(ks ls:List Nat) (xs ys:List D) (r:Bool),eqDs (ks++ls) xs ys=some r→∃r1 r2,eqDs ks (xs.take ks.length) (ys.take ks.length)=some r1∧eqDs ls (xs.drop ks.length) (ys.drop ks.length)=some r2∧r=(r1&&r2)
 | [],ls,xs,ys,r,h=>⟨true,r,by simp [eqDs],by simpa using h,by simp⟩
 | k :: ks,ls,x :: xs,y :: ys,r,h=>by
  simp only [List.cons_append,eqDs] at h
  split at h
  ·rename_i u v hu hv
   cases h
   obtain ⟨r1,r2,h1,h2,h3⟩:=jtn ks ls xs ys v hv
   exact ⟨u&&r1,r2,by simp [eqDs,hu,h1],by simpa using h2,by rw [h3,Bool.and_assoc]⟩
  ·cases h
 | k :: ks,ls,[],ys,r,h=>by simp [eqDs] at h
 | k :: ks,ls,x :: xs,[],r,h=>by simp [eqDs] at h
theorem jdn:∀(ks:List Nat) (xs ys:List D) (r:Bool),eqDs ks xs ys=some r→xs.length=ks.length∧ys.length=ks.length
 | [],[],[],r,h=>by simp
 | k :: ks,x :: xs,y :: ys,r,h=>by
  simp only [eqDs] at h
  split at h
  ·rename_i u v hu hv;simp [jdn ks xs ys v hv]
  ·cases h
 | [],x :: xs,ys,r,h=>by simp [eqDs] at h
 | [],[],y :: ys,r,h=>by simp [eqDs] at h
 | k :: ks,[],ys,r,h=>by simp [eqDs] at h
 | k :: ks,x :: xs,[],r,h=>by simp [eqDs] at h
def jzf (P:Program) (t:TypeId) (ds:List D):Value :=
 match P.underlying t with | some (.struct _)=>.agg (ds.map dv).toArray | _=>dv (ds.headD (.b false))
def jft (P:Program) (w:World) (t:TypeId) (n:Nat):Prop:=∀off (all:List D),off+n≤all.length→(part t (all.map dv).toArray off).run P w=.ok (jzf P t ((all.drop off).take n)) w
def EqOk (P:Program) (w:World) (k:Nat) (t:TypeId) (ks:List Nat):Prop:=∀(xs ys:List D) (r:Bool),eqDs ks xs ys=some r→(Op.equalIn k t (jzf P t xs) (jzf P t ys)).run P w=.ok r w

theorem jxk {P:Program} {w:World} {k:Nat} {f:TypeId→Option (List Nat)} (hf:∀t ks,f t=some ks→jft P w t ks.length∧EqOk P w k t ks) :
  ∀(fs:List Field) (off:Nat) (ks:List Nat),eqFs f off fs=some ks→∀(xs ys:List D) (r:Bool),off≤xs.length→off≤ys.length→eqDs ks (xs.drop off) (ys.drop off)=some r →
   (Op.eqFields k (xs.map dv).toArray (ys.map dv).toArray fs).run P w=.ok r w
 | [],off,ks,h,xs,ys,r,_,_,hr=>by
  simp only [eqFs,Option.some.injEq] at h
  subst h
  have hr':r=true:=by
   unfold eqDs at hr
   split at hr<;>simp_all
  subst hr'
  simp [Op.eqFields]
 | fl :: fs,off,ks,h,xs,ys,r,hx,hy,hr=>by
  simp only [eqFs] at h
  split at h
  ·cases h
  ·rename_i hn
   simp only [not_or,Decidable.not_not] at hn
   obtain ⟨hname,hoff⟩:=hn
   split at h
   ·rename_i k1 h1
    split at h
    ·rename_i k2 h2
     cases h
     obtain ⟨hp,he⟩:=hf _ _ h1
     obtain ⟨r1,r2,h3,h4,h5⟩:=jtn k1 k2 _ _ r hr
     obtain ⟨hl1,hl2⟩:=jdn _ _ _ _ h3
     simp only [List.length_take,List.length_drop] at hl1 hl2
     rw [List.drop_drop,List.drop_drop] at h4
     have ih:=jxk hf fs (off+k1.length) k2 h2 xs ys r2 (by omega) (by omega) h4
     subst hoff
     have e1:=hp fl.offset xs (by omega)
     have e2:=hp fl.offset ys (by omega)
     have e3:=he _ _ r1 h3
     rw [Op.eqFields]
     simp only [if_pos hname,Sem.run_bind,e1,e2,e3,Result.andThen_ok]
     cases r1
     ·subst h5;simp
     ·simp only [Bool.true_and] at h5;subst h5;simpa using ih
    ·cases h
   ·cases h
theorem jqz {P:Program} (w:World):∀(d:Nat) (t:TypeId) (ks:List Nat),eqTy P d t=some ks→jft P w t ks.length∧∀k,d≤k→EqOk P w k t ks:=by
 intro d
 induction d with
 | zero=>intro t ks h;simp [eqTy] at h
 | succ d ih =>
  intro t ks h
  have scalar:∀(u:TypeDesc) (c:Nat),P.underlying t=some u→(∀f,u≠.struct f)→(∀a b,u≠.array a b)→(∀k x y r,eqC c x y=some r→(Op.equalIn (k+1) t (dv x) (dv y)).run P w=.ok r w) →
    jft P w t [c].length∧∀k,d+1≤k→EqOk P w k t [c]:=by
   intro u c hu hns hna he
   have hp:∀ds,jzf P t ds=dv (ds.headD (.b false)):=by
    intro ds
    unfold jzf
    rw [hu]
    cases u<;>first | rfl | exact absurd rfl (hns _)
   refine ⟨fun off all hl=>?_,fun k hk xs ys r hr=>?_⟩
   ·have hagg:(isAgg t).run P w=.ok false w:=by
     unfold isAgg
     rw [Sem.run_bind,run_underlying hu w]
     cases u<;>first | rfl | exact absurd rfl (hns _) | exact absurd rfl (hna _ _)
    have hlt:off < all.length:=by simp at hl;omega
    have hz2:(all.drop off).take [c].length=[all[off]]:=by
     rw [List.drop_eq_getElem_cons hlt]
     rfl
    rw [hp,hz2]
    simp [part,hagg,hlt]
   ·obtain ⟨k,rfl⟩:∃m,k=m+1:=⟨k - 1,by omega⟩
    obtain ⟨h1,h2⟩:=jdn _ _ _ _ hr
    match xs,ys,h1,h2 with
    | [x],[y],_,_ =>
     rw [hp,hp]
     apply he
     simp only [eqDs] at hr
     split at hr
     ·rename_i a b h3 h4;cases h4;simpa using h3.trans (by simpa using hr)
     ·cases hr
  unfold eqTy at h
  split at h
  ·rename_i hu
   cases h
   exact scalar _ 0 hu (by simp) (by simp) (fun k x y r he=>by
    cases x<;>cases y<;>simp [eqC] at he
    rw [←he]
    exact run_equalIn_bool w k t _ _ hu)
  ·rename_i q hu
   cases h
   exact scalar _ 1 hu (by simp) (by simp) (fun k x y r he=>by
    cases x<;>cases y<;>simp [eqC] at he
    obtain ⟨rfl,he⟩:=he
    rw [←he]
    exact run_equalIn_int w k t _ q _ _ hu)
  ·rename_i hu
   cases h
   exact scalar _ 2 hu (by simp) (by simp) (fun k x y r he=>by
    cases x<;>cases y<;>simp [eqC] at he
    rw [←he]
    exact run_equalIn_string w k t _ _ hu)
  ·rename_i fs hu
   split at h
   ·rename_i i n hi hn
    split at h
    ·rename_i hc
     obtain ⟨hst,hsz⟩:=hc
     cases h
     have hpk:∀ds,jzf P t ds=.agg (ds.map dv).toArray:=by intro ds;unfold jzf;rw [hu]
     refine ⟨fun off all hl=>?_,fun k hk xs ys r hr=>?_⟩
     ·have hagg:(isAgg t).run P w=.ok true w:=by
       unfold isAgg
       rw [Sem.run_bind,run_underlying hu w]
       rfl
      rw [hpk]
      simp [part,hagg,sizeOf,typeInfo,hi,hsz]
     ·obtain ⟨k,rfl⟩:∃m,k=m+1:=⟨k - 1,by omega⟩
      have hfo:P.fieldsOf t=fs:=by simp [Program.fieldsOf,hu]
      rw [hpk,hpk,run_equalIn_struct w k t _ _ (by rw [hfo];exact hu) hst,hfo]
      exact jxk (f:=eqTy P d) (fun t' ks' h'=>⟨(ih t' ks' h').1,(ih t' ks' h').2 k (by omega)⟩) fs.toList 0 _ hn xs ys r (by omega) (by omega) (by simpa using hr)
    ·cases h
   ·cases h
  ·cases h
theorem jqu {h:List (Nat × Blk)}:∀(ks:List Nat) (xs ys:List SV) (r:Bool) (us vs:List Value),eqCs ks xs ys=some r→us.length=xs.length→vs.length=ys.length →
  (∀(j:Nat) x,xs[j]? = some x→∃u,us[j]? = some u∧u.oneCell'=true∧CRel R G h x u)→(∀(j:Nat) x,ys[j]? = some x→∃u,vs[j]? = some u∧u.oneCell'=true∧CRel R G h x u) →
  ∃dx dy:List D,us=dx.map dv∧vs=dy.map dv∧eqDs ks dx dy=some r
 | [],[],[],r,us,vs,he,hu,hv,_,_=>by
  simp only [eqCs,Option.some.injEq] at he
  subst he
  exact ⟨[],[],by simpa using hu,by simpa using hv,rfl⟩
 | k :: ks,.d x :: xs,.d y :: ys,r,us,vs,he,hu,hv,hx,hy=>by
  simp only [eqCs] at he
  split at he
  ·rename_i b1 b2 h1 h2
   cases he
   cases us with
   | nil=>simp at hu
   | cons u us =>
    cases vs with
    | nil=>simp at hv
    | cons v vs =>
     obtain ⟨dx,dy,h3,h4,h5⟩:=jqu ks xs ys b2 us vs h2 (by simpa using hu) (by simpa using hv) (fun j z hj=>by simpa using hx (j+1) z (by simpa using hj)) (fun j z hj=>by simpa using hy (j+1) z (by simpa using hj))
     obtain ⟨u',hu',_,hru⟩:=hx 0 (.d x) rfl
     obtain ⟨v',hv',_,hrv⟩:=hy 0 (.d y) rfl
     simp at hu' hv'
     subst hu' hv'
     have e1:u=dv x:=by
      have:isSc x=true:=by cases x<;>first | rfl | (unfold eqC at h1;split at h1<;>simp_all)
      cases x<;>first | (cases hru;rfl) | cases this
     have e2:v=dv y:=by
      have:isSc y=true:=by cases y<;>first | rfl | (unfold eqC at h1;split at h1<;>simp_all)
      cases y<;>first | (cases hrv;rfl) | cases this
     exact ⟨x :: dx,y :: dy,by simp [e1,h3],by simp [e2,h4],by simp [eqDs,h1,h5]⟩
  ·cases he
theorem jds {op:BinOp} {t ty:TypeId} {x y:Operand} {xs ys:List SV} {ks:List Nat} {r:Bool} (H:Here C R G st a w p) (hs:Slots C R G st a [x,y]) (ho:o.op=.binOp op t x y ty) (hop:op=.eql∨op=.neq)
  (hx:ev C st p x=.agg xs) (hy:ev C st p y=.agg ys) (hk:eqK C.P t=some ks) (hr:eqCs ks xs ys=some r):Does C R G st a w o (.d (.b (if op=.eql then r else !r))):=by
 obtain ⟨us,h1,h2,h3⟩:=H.evE hs (x:=x) (by simp) hx
 obtain ⟨vs,h4,h5,h6⟩:=H.evE hs (x:=y) (by simp) hy
 obtain ⟨dx,dy,rfl,rfl,h7⟩:=jqu ks xs ys r us vs hr h2 h5 h3 h6
 obtain ⟨F,hF,hg,hk⟩:∃F,C.P.underlying t=some (.struct F)∧C.P.eqGuardType C.P.depth t=false∧eqTy C.P 8 t=some ks:=by
  unfold eqK at hk
  split at hk
  ·rename_i F hF
   split at hk
   ·cases hk
   ·rename_i hg;exact ⟨F,hF,by simpa using hg,hk⟩
  ·cases hk
 have he:=(jqz (P:=C.P) w 8 t ks hk).2 10000 (by omega) dx dy r h7
 have hpk:∀ds,jzf C.P t ds=.agg (ds.map dv).toArray:=by intro ds;unfold jzf;rw [hF]
 rw [hpk,hpk] at he
 have hgd:(eqGuard op t x y (a.eval x) (a.eval y)).run C.P w=.ok () w:=by
  rw [h1,h4]
  rcases hop with rfl | rfl<;>simp [eqGuard,hg]
 rcases hop with rfl | rfl
 ·exact ⟨.bool r,by simp [execOp,ho,hgd];rw [h1,h4,run_eql_struct,he];rfl,Rep.b _⟩
 ·exact ⟨.bool (!r),by simp [execOp,ho,hgd];rw [h1,h4,run_neq_struct,he];rfl,Rep.b _⟩
end Go.Den

/- The whole invariant of a call under way; what is given away. -/
namespace Go.Den
open Go

structure BInvS (S:Nat→Prop) (R:Rt) (G:Gh) (h:List (Nat × Blk)) (P:Program) (w:World):Prop where
 rel:∀n,G.live n→¬ S n→∃b,hlk h n=some b∧BRel R G h P w n b
 disj:∀n m,G.live n→¬ S n→G.live m→¬ S m→n≠m→∀k,G.φ n k→G.φ m k→False
 mine:∀n,G.live n→¬ S n→∀k,G.φ n k→k < w.heap.size∧(R.L k∨R.w0.heap.size≤k)
 fix:∀n b,R.fix n=some b→G.live n∧G.base n=b∧(¬ S n→∃cs,hlk h n=some (.box cs))
structure InvS (S:Nat→Prop) (C:Ctx) (R:Rt) (G:Gh) (st:St) (a:Act) (w:World):Prop where
 W:WInv R w
 B:BInvS S R G st.h C.P w
 all:∀n b,hlk st.h n=some b→¬ S n
 slots:∀t,jma C R G st a t
 l:PI st.l
 m:st.m.length=C.keep.length
abbrev Inv:=InvS (fun _=>False)
theorem Inv.bare {C:Ctx} {R:Rt} {G:Gh} {st:St} {a:Act} {w:World} (H:Inv C R G st a w):BInv R G st.h C.P w :=
 ⟨fun n hn=>H.B.rel n hn id,fun n m hn hm=>H.B.disj n m hn id hm id,fun n hn=>H.B.mine n hn id,fun n b h=>⟨(H.B.fix n b h).1,(H.B.fix n b h).2.1,(H.B.fix n b h).2.2 id⟩⟩

def Same (G:Gh) (h:List (Nat × Blk)) (G':Gh) (h':List (Nat × Blk)) (n:Nat):Prop :=
 G.live n→G'.live n∧G'.base n=G.base n∧G'.hv n=G.hv n∧∀e sz xs,hlk h n=some (.row e sz xs)→∃xs',hlk h' n=some (.row e sz xs')
theorem Same.refl (G:Gh) (h:List (Nat × Blk)) (n:Nat):Same G h G h n:=fun hl=>⟨hl,rfl,rfl,fun e sz xs hx=>⟨xs,hx⟩⟩
def nmO:SV→Option Nat | .own n=>some n | .ptr n _=>some n | .rp n _ _=>some n | .ov n _=>some n | .fp _ n _=>some n | _=>none
variable {C:Ctx} {R:Rt} {G G':Gh} {h h':List (Nat × Blk)} {st:St} {a:Act} {w:World}
theorem jea {x:SV} {u:Value} (hs:∀n,nmO x=some n→Same G h G' h' n) (hx:CRel R G h x u):CRel R G' h' x u:=by
 cases x with
 | own n=>obtain ⟨h1,h2,h3,h4⟩:=hs n rfl hx.1;exact ⟨h1,by rw [h3];exact hx.2.1,hx.2.2⟩
 | ptr n off=>obtain ⟨h1,h2,h3,h4⟩:=hs n rfl hx.1;exact ⟨h1,by rw [h2];exact hx.2⟩
 | fp f n off=>obtain ⟨h1,h2,h3,h4⟩:=hs n rfl hx.1;exact ⟨h1,by rw [h2];exact hx.2⟩
 | rp n i off =>
  obtain ⟨h5,e,sz,xs,h6,g,o,len,cap,h7,h8⟩:=hx
  obtain ⟨h1,h2,h3,h4⟩:=hs n rfl h5
  obtain ⟨xs',h9⟩:=h4 e sz xs h6
  exact ⟨h1,e,sz,xs',h9,g,o,len,cap,by rw [h3];exact h7,h8⟩
 | ov n k =>
  obtain ⟨h5,A,len,cap,h6,h7,h8⟩:=hx
  obtain ⟨h1,h2,h3,h4⟩:=hs n rfl h5
  exact ⟨h1,A,len,cap,by rw [h3];exact h6,h7,h8⟩
 | _=>exact hx
theorem jfl {x:SV} {u:Value} (hx:∀cs,x≠.agg cs):ARel R G h x u=CRel R G h x u:=by cases x<;>first | rfl | exact absurd rfl (hx _)
theorem jni {x:SV} {u:Value} (hx:∀cs,x≠.tup cs):VRel R G h x u=ARel R G h x u:=by cases x<;>first | rfl | exact absurd rfl (hx _)
theorem jbq {x:SV} {u:Value} (hs:∀n,Same G h G' h' n) (hx:ARel R G h x u):ARel R G' h' x u:=by
 by_cases hc:∃cs,x=.agg cs
 ·obtain ⟨cs,rfl⟩:=hc
  obtain ⟨vs,h1,h2,h3⟩:=hx
  exact ⟨vs,h1,h2,fun j y hj=>by obtain ⟨z,h4,h5,h6⟩:=h3 j y hj;exact ⟨z,h4,h5,jea (fun n _=>hs n) h6⟩⟩
 ·have hc':∀cs,x≠.agg cs:=fun cs e=>hc ⟨cs,e⟩
  rw [jfl hc'] at hx ⊢
  exact jea (fun n _=>hs n) hx
theorem jxj {x:SV} {u:Value} (hs:∀n,Same G h G' h' n) (hx:VRel R G h x u):VRel R G' h' x u:=by
 by_cases hc:∃cs,x=.tup cs
 ·obtain ⟨cs,rfl⟩:=hc
  obtain ⟨vs,h1,h2,h3⟩:=hx
  exact ⟨vs,h1,h2,fun j y hj=>by obtain ⟨z,h4,h5⟩:=h3 j y hj;exact ⟨z,h4,jbq hs h5⟩⟩
 ·have hc':∀cs,x≠.tup cs:=fun cs e=>hc ⟨cs,e⟩
  rw [jni hc'] at hx ⊢
  exact jbq hs hx
theorem jib {t:Nat} {a:Act} {h':List (Nat × Blk)} (hs:∀n,Same G st.h G' h' n) (hx:jma C R G st a t):jma C R G' { st with h:=h' } a t:=by
 unfold jma at hx ⊢
 split at hx
 ·rename_i heq
  rw [show ({ st with h:=h' }:St).l=st.l from rfl,heq]
  dsimp only
  split at hx
  ·rename_i hc;rw [if_pos hc];exact jxj hs hx
  ·rename_i hc;rw [if_neg hc];exact hx
 ·rename_i heq
  rw [show ({ st with h:=h' }:St).l=st.l from rfl,heq]
  exact jxj hs hx

/-! lookups -/
theorem jga (h:List (Nat × Blk)) (n:Nat) (x:Blk) (k:Nat):hlk (hset h n x) k=if k=n then some x else hlk h k:=by
 induction h with
 | nil=>simp only [hset,hlk];by_cases hk:n=k<;>simp [hk,eq_comm]
 | cons p r ih =>
  obtain ⟨b,v⟩:=p
  simp only [hset]
  by_cases hb:b=n
  ·subst hb
   simp only [if_true,hlk]
   by_cases hk:b=k
   ·simp [hk]
   ·simp [hk,Ne.symm hk]
  ·rw [if_neg hb]
   simp only [hlk,ih]
   by_cases hk:b=k
   ·subst hk;simp [hb]
   ·simp [hk]
theorem jwa:∀(h:List (Nat × Blk)) (n k:Nat),hlk (hdel h n) k=if k=n then none else hlk h k
 | [],n,k=>by simp [hdel,hlk]
 | (b,v) :: r,n,k=>by
  simp only [hdel]
  by_cases hb:b=n
  ·subst hb
   rw [if_pos rfl,jwa r b k]
   simp only [hlk]
   by_cases hk:k=b
   ·subst hk;simp
   ·simp [hk,Ne.symm hk]
  ·rw [if_neg hb]
   simp only [hlk,jwa r n k]
   by_cases hk:b=k
   ·subst hk;simp [hb]
   ·simp [hk]
theorem jld:∀(n:Nat) (h:List (Nat × Blk)) (k:Nat),hlk (killH n h) k=(hlk h k).map (killB n)
 | n,[],k=>rfl
 | n,(b,v) :: r,k=>by
  simp only [killH,hlk,jld n r k]
  split<;>rfl
theorem jje:∀(h k:List (Nat × Blk)) (n:Nat),hlk (h++k) n=match hlk h n with | some b=>some b | none=>hlk k n
 | [],k,n=>rfl
 | (b,v) :: r,k,n=>by
  simp only [List.cons_append,hlk,jje r k n]
  split<;>rfl

theorem jdk {n:Nat} {x:SV} {u:Value} (hs:∀k,k≠n→Same G h G' h' k) (hx:CRel R G h x u):CRel R G' h' (killC n x) u:=by
 cases x with
 | own k =>
  simp only [killC]
  split
  ·trivial
  ·rename_i hk;exact jea (x:=.own k) (fun m hm=>by cases hm;exact hs k hk) hx
 | rp k i o =>
  simp only [killC]
  split
  ·trivial
  ·rename_i hk;exact jea (x:=.rp k i o) (fun m hm=>by cases hm;exact hs k hk) hx
 | ov k i =>
  simp only [killC]
  split
  ·trivial
  ·rename_i hk;exact jea (x:=.ov k i) (fun m hm=>by cases hm;exact hs k hk) hx
 | ptr k o =>
  simp only [killC]
  split
  ·trivial
  ·rename_i hk;exact jea (x:=.ptr k o) (fun m hm=>by cases hm;exact hs k hk) hx
 | fp f k o =>
  simp only [killC]
  split
  ·trivial
  ·rename_i hk;exact jea (x:=.fp f k o) (fun m hm=>by cases hm;exact hs k hk) hx
 | op b cs=>exact hx
 | fb f cs=>exact hx
 | bx n j x=>exact hx
 | agg cs=>exact hx
 | tup cs=>exact hx
 | d x=>exact hx
 | nils=>exact hx
 | nilp=>exact hx
 | pv cs o=>exact hx
 | fn f=>exact hx
 | undef=>trivial
theorem jmj (n:Nat):∀(cs:List SV) (j:Nat),(killCs n cs)[j]? = (cs[j]?).map (killC n)
 | [],j=>by simp [killCs]
 | c :: cs,0=>by simp [killCs]
 | c :: cs,j+1=>by simp [killCs,jmj n cs j]
theorem jtf (n:Nat):∀(cs:List SV),(killCs n cs).length=cs.length
 | []=>rfl
 | c :: cs=>by simp [killCs,jtf n cs]
theorem jlo (n:Nat):∀(cs:List SV) (j:Nat),(killAs n cs)[j]? = (cs[j]?).map (killA n)
 | [],j=>by simp [killAs]
 | c :: cs,0=>by simp [killAs]
 | c :: cs,j+1=>by simp [killAs,jlo n cs j]
theorem juo (n:Nat):∀(cs:List SV),(killAs n cs).length=cs.length
 | []=>rfl
 | c :: cs=>by simp [killAs,juo n cs]
theorem jnv {n:Nat} {cs:List SV} {vs:List Value} (hs:∀k,k≠n→Same G h G' h' k)
  (hc:∀(j:Nat) x,cs[j]? = some x→∃u,vs[j]? = some u∧u.oneCell'=true∧CRel R G h x u):∀(j:Nat) x,(killCs n cs)[j]? = some x→∃u,vs[j]? = some u∧u.oneCell'=true∧CRel R G' h' x u:=by
 intro j x hj
 rw [jmj,Option.map_eq_some_iff] at hj
 obtain ⟨y,hy,rfl⟩:=hj
 obtain ⟨u,h1,h2,h3⟩:=hc j y hy
 exact ⟨u,h1,h2,jdk hs h3⟩
theorem jfq {n:Nat} {x:SV} {u:Value} (hs:∀k,k≠n→Same G h G' h' k) (hx:ARel R G h x u):ARel R G' h' (killA n x) u:=by
 by_cases hc:∃cs,x=.agg cs
 ·obtain ⟨cs,rfl⟩:=hc
  obtain ⟨vs,h1,h2,h3⟩:=hx
  exact ⟨vs,h1,by rw [jtf];exact h2,jnv hs h3⟩
 ·have hc':∀cs,x≠.agg cs:=fun cs e=>hc ⟨cs,e⟩
  rw [jfl hc'] at hx
  have hk:killA n x=killC n x:=by cases x<;>first | rfl | exact absurd rfl (hc' _)
  have hk':∀cs,killC n x≠.agg cs:=by
   intro cs
   cases x<;>simp only [killC]<;>first | exact absurd rfl (hc' _) | (split<;>simp) | simp
  rw [hk,jfl hk']
  exact jdk hs hx
theorem jyp {n:Nat} {x:SV} {u:Value} (hs:∀k,k≠n→Same G h G' h' k) (hx:VRel R G h x u):VRel R G' h' (killV n x) u:=by
 by_cases hc:∃cs,x=.tup cs
 ·obtain ⟨cs,rfl⟩:=hc
  obtain ⟨vs,h1,h2,h3⟩:=hx
  refine ⟨vs,h1,by rw [juo];exact h2,fun j y hj=>?_⟩
  rw [jlo,Option.map_eq_some_iff] at hj
  obtain ⟨y',hy,rfl⟩:=hj
  obtain ⟨z,h4,h5⟩:=h3 j y' hy
  exact ⟨z,h4,jfq hs h5⟩
 ·have hc':∀cs,x≠.tup cs:=fun cs e=>hc ⟨cs,e⟩
  rw [jni hc'] at hx
  have hk:killV n x=killA n x:=by cases x<;>first | rfl | exact absurd rfl (hc' _)
  have hk':∀cs,killA n x≠.tup cs:=by
   intro cs
   cases x<;>simp only [killA,killC]<;>first | exact absurd rfl (hc' _) | (split<;>simp) | simp
  rw [hk,jni hk']
  exact jfq hs hx
theorem jcb (n:Nat):∀(l:List (Nat × Path × Bool × SV)) (t:Nat),lk (killL n l) t=(lk l t).map fun e=>(e.1,e.2.1,killV n e.2.2)
 | [],t=>rfl
 | (a,p,c,v) :: r,t=>by
  simp only [killL,lk,jcb n r t]
  split<;>rfl
theorem jdc (n:Nat):∀(ks:List Nat) (m:List SV) (t:Nat),lkm ks (killM n m) t=killV n (lkm ks m t)
 | [],m,t=>by cases m<;>rfl
 | k :: ks,[],t=>rfl
 | k :: ks,v :: vs,t=>by
  simp only [killM,lkm,jdc n ks vs t]
  split<;>rfl
theorem jph (n:Nat):∀(m:List SV),(killM n m).length=m.length
 | []=>rfl
 | v :: vs=>by simp [killM,jph n vs]
theorem jtp {n t:Nat} (hs:∀k,k≠n→Same G st.h G' h' k) (hx:jma C R G st a t):jma C R G' ⟨killM n st.m,killL n st.l,h'⟩ a t:=by
 unfold jma at hx ⊢
 dsimp only
 rw [jcb,jdc]
 cases hl:lk st.l t with
 | none=>rw [hl] at hx;exact jyp hs hx
 | some e =>
  obtain ⟨p,c,v⟩:=e
  rw [hl] at hx
  dsimp only [Option.map] at hx ⊢
  split at hx
  ·rename_i hc;rw [if_pos hc];exact jyp hs hx
  ·rename_i hc;rw [if_neg hc];exact hx
theorem jnu {n:Nat} {l:List (Nat × Path × Bool × SV)} (hl:PI l):PI (killL n l):=by
 intro t q c v h
 rw [jcb,Option.map_eq_some_iff] at h
 obtain ⟨⟨q',c',v'⟩,h1,h2⟩:=h
 cases h2
 rcases hl t q' c' v' h1 with h | ⟨q0,t0,b0,c0,x0,h3,h4,h5⟩
 ·exact .inl h
 ·exact .inr ⟨q0,t0,b0,c0,x0,h3,by rw [jcb,h4];rfl,h5⟩

def Gh.drop (G:Gh) (n:Nat):Gh:={ G with live:=fun k=>G.live k∧k≠n }
def St.give (st:St) (n:Nat):St:={ kill st n with h:=hdel (killH n st.h) n }
theorem jme (n k:Nat):hlk (st.give n).h k=if k=n then none else (hlk st.h k).map (killB n):=by
 simp only [St.give,jwa,jld]
theorem jbk (G:Gh) (n:Nat):∀k,k≠n→Same G st.h (G.drop n) (st.give n).h k:=fun k hk hl=>⟨⟨hl,hk⟩,rfl,rfl,fun e sz xs h=>⟨xs,by rw [jme,if_neg hk,h];rfl⟩⟩
theorem jrq {P:Program} {n k:Nat} {b:Blk} (hs:∀k,k≠n→Same G h G' h' k) (hφ:G'.φ k=G.φ k) (hb:G'.base k=G.base k) (hh:G'.hv k=G.hv k) (hx:BRel R G h P w k b):BRel R G' h' P w k (killB n b):=by
 cases b with
 | row e sz xs=>simp only [killB,BRel,hφ,hh] at hx ⊢;exact hx
 | box cs =>
  obtain ⟨cur,e,h1,h2,h3,h4,h5⟩:=hx
  refine ⟨cur,e,by rw [hb];exact h1,by rw [hφ,hb];exact h2,by rw [hb,jtf];exact h3,by rw [hb,jtf];exact h4,fun j x hj=>?_⟩
  rw [jmj,Option.map_eq_some_iff] at hj
  obtain ⟨y,hy,rfl⟩:=hj
  obtain ⟨u,h6,h7,h8⟩:=h5 j y hy
  exact ⟨u,by rw [hb];exact h6,h7,jdk hs h8⟩
theorem Same.trans {G G' G'':Gh} {h h' h'':List (Nat × Blk)} {n:Nat} (A:Same G h G' h' n) (B:Same G' h' G'' h'' n):Same G h G'' h'' n:=fun hl=>by
 obtain ⟨a1,a2,a3,a4⟩:=A hl
 obtain ⟨b1,b2,b3,b4⟩:=B a1
 exact ⟨b1,b2.trans a2,b3.trans a3,fun e sz xs hx=>by obtain ⟨ys,hy⟩:=a4 e sz xs hx;exact b4 e sz ys hy⟩
def Has (G0:Gh) (h0:List (Nat × Blk)) (G:Gh) (h:List (Nat × Blk)):Prop:=∀n b,hlk h n=some b→(∃b0,hlk h0 n=some b0)∧Same G0 h0 G h n
theorem Has.refl (G:Gh) (h:List (Nat × Blk)):Has G h G h:=fun _ b hb=>⟨⟨b,hb⟩,Same.refl G h _⟩
theorem Has.live {G0 G:Gh} {h0 h:List (Nat × Blk)} {n:Nat} {b:Blk} (H:Has G0 h0 G h) (hl:G0.live n) (hb:hlk h n=some b):G.live n:=((H n b hb).2 hl).1
theorem Has.trans {G0 G1 G2:Gh} {h0 h1 h2:List (Nat × Blk)} (A:Has G0 h0 G1 h1) (B:Has G1 h1 G2 h2):Has G0 h0 G2 h2:=fun n b hb=>by
 obtain ⟨⟨b1,h3⟩,h4⟩:=B n b hb
 obtain ⟨h5,h6⟩:=A n b1 h3
 exact ⟨h5,h6.trans h4⟩
theorem jyr (G:Gh) (n:Nat):Has G st.h (G.drop n) (st.give n).h:=fun k b h=>by
 have h':=h
 rw [jme] at h'
 split at h'
 ·cases h'
 ·rename_i hk
  rw [Option.map_eq_some_iff] at h'
  obtain ⟨b',h1,_⟩:=h'
  exact ⟨⟨b',h1⟩,jbk G n k hk⟩
theorem Has.give {G0:Gh} {h0:List (Nat × Blk)} {n:Nat} (H:Has G0 h0 G st.h):Has G0 h0 (G.drop n) (st.give n).h:=H.trans (jyr G n)
theorem jch {S:Nat→Prop} {n e sz:Nat} {xs:List (List D)} (H:InvS S C R G st a w) (hrow:hlk st.h n=some (.row e sz xs)):InvS S C R (G.drop n) (st.give n) a w where
 W:=H.W
 B:={
  rel:=fun k ⟨hk,hkn⟩ hS=>by
   obtain ⟨b,h1,h2⟩:=H.B.rel k hk hS
   exact ⟨killB n b,by rw [jme,if_neg hkn,h1];rfl,jrq (jbk G n) rfl rfl rfl h2⟩
  disj:=fun k m hk hS hm hS'=>H.B.disj k m hk.1 hS hm.1 hS'
  mine:=fun k hk hS=>H.B.mine k hk.1 hS
  fix:=fun k b h=>by
   obtain ⟨h1,h2,h3⟩:=H.B.fix k b h
   have hkn:k≠n:=fun e=>by
    subst e
    obtain ⟨cs,hc⟩:=h3 (H.all _ _ hrow)
    rw [hrow] at hc;cases hc
   refine ⟨⟨h1,hkn⟩,h2,fun hS=>?_⟩
   obtain ⟨cs,hc⟩:=h3 hS
   exact ⟨_,by rw [jme,if_neg hkn,hc];rfl⟩ }
 all:=fun k b h=>by
  rw [jme] at h
  split at h
  ·cases h
  ·rename_i hk
   rw [Option.map_eq_some_iff] at h
   obtain ⟨b',h1,_⟩:=h
   exact H.all k b' h1
 slots:=fun t=>jtp (jbk G n) (H.slots t)
 l:=jnu H.l
 m:=by simp only [St.give,kill,jph];exact H.m
theorem give_box {S:Nat→Prop} {n:Nat} {ds:List SV} (H:InvS S C R G st a w) (hbox:hlk st.h n=some (.box ds)) (hfix:R.fix n=none):InvS S C R (G.drop n) (st.give n) a w where
 W:=H.W
 B:={
  rel:=fun k ⟨hk,hkn⟩ hS=>by
   obtain ⟨b,h1,h2⟩:=H.B.rel k hk hS
   exact ⟨killB n b,by rw [jme,if_neg hkn,h1];rfl,jrq (jbk G n) rfl rfl rfl h2⟩
  disj:=fun k m hk hS hm hS'=>H.B.disj k m hk.1 hS hm.1 hS'
  mine:=fun k hk hS=>H.B.mine k hk.1 hS
  fix:=fun k b h=>by
   obtain ⟨h1,h2,h3⟩:=H.B.fix k b h
   have hkn:k≠n:=fun e=>by subst e;rw [hfix] at h;cases h
   refine ⟨⟨h1,hkn⟩,h2,fun hS=>?_⟩
   obtain ⟨cs,hc⟩:=h3 hS
   exact ⟨_,by rw [jme,if_neg hkn,hc];rfl⟩ }
 all:=fun k b h=>by
  rw [jme] at h
  split at h
  ·cases h
  ·rename_i hk
   rw [Option.map_eq_some_iff] at h
   obtain ⟨b',h1,_⟩:=h
   exact H.all k b' h1
 slots:=fun t=>jtp (jbk G n) (H.slots t)
 l:=jnu H.l
 m:=by simp only [St.give,kill,jph];exact H.m
def jiv:Blk→Prop | .box cs=>∀c∈cs,nmO c=none | .row _ _ _=>True
def jwb (G:Gh) (h:List (Nat × Blk)) (n:Nat) (b:Blk):Prop:=¬ G.live n∧hlk h n=some b∧jiv b
def Fr (G:Gh) (h:List (Nat × Blk)) (G':Gh) (h':List (Nat × Blk)):Prop:=∀n cs,jwb G h n cs→jwb G' h' n cs
theorem Fr.refl (G:Gh) (h:List (Nat × Blk)):Fr G h G h:=fun _ _ h=>h
theorem Fr.trans {G G' G'':Gh} {h h' h'':List (Nat × Blk)} (A:Fr G h G' h') (B:Fr G' h' G'' h''):Fr G h G'' h'':=fun n cs hu=>B n cs (A n cs hu)
theorem jmm (n:Nat):∀(cs:List SV),(∀c∈cs,nmO c=none)→killCs n cs=cs
 | [],_=>rfl
 | c :: cs,h=>by
  simp only [killCs,jmm n cs (fun x hx=>h x (by simp [hx]))]
  have:=h c (by simp)
  cases c<;>first | rfl | (simp [nmO] at this)
theorem jpn (n:Nat):∀{b:Blk},jiv b→killB n b=b
 | .box cs,h=>by simp only [killB,jmm n cs h]
 | .row _ _ _,_=>rfl
theorem jyl {n:Nat} (hl:G.live n):Fr G st.h (G.drop n) (st.give n).h:=fun m cs ⟨h1,h2,h3⟩=>by
 have hmn:m≠n:=fun e=>h1 (e ▸ hl)
 refine ⟨fun h=>h1 h.1,?_,h3⟩
 rw [jme,if_neg hmn,h2]
 simp [jpn n h3]
end Go.Den

/- What a function promises; cells given away and laid down. -/
namespace Go.Den
open Go

def EOk (P:Program) (e sz:Nat):Prop:=(e=wk∨∃i,P.info? e=some i∧i.size=sz)∧0 < sz
def KC (P:Program) (R:Rt) (w:World) (ks:List (Option (Nat × Nat))) (ds:List D) (us:List Value) (θ:Nat→Nat→Prop):Prop :=
 ks.length=ds.length∧us.length=ds.length∧∀(j:Nat) k d u,ks[j]? = some k→ds[j]? = some d→us[j]? = some u →
  u.oneCell'=true∧match k with | none=>Rep R.w0 R.T d u | some (e,sz)=>∃xs,d=.l xs∧RowX w e sz (θ j) xs u∧EOk P e sz
def Mine (R:Rt) (w:World) (θ:Nat→Nat→Prop):Prop:=∀j k,θ j k→k < w.heap.size∧(R.L k∨R.w0.heap.size≤k)∧∀lo hi,¬ R.LB k lo hi
def jow (θ:Nat→Nat→Prop):Prop:=∀i j k,θ i k→θ j k→i=j
def Gle (G G0:Gh):Prop:=(∀n,G.live n→G0.live n)∧G.base=G0.base∧G.hv=G0.hv∧G.φ=G0.φ
theorem Gle.refl (G:Gh):Gle G G:=⟨fun _ h=>h,rfl,rfl,rfl⟩
theorem Gle.trans {A B C:Gh} (h:Gle A B) (k:Gle B C):Gle A C:=⟨fun n hn=>k.1 n (h.1 n hn),h.2.1.trans k.2.1,h.2.2.1.trans k.2.2.1,h.2.2.2.trans k.2.2.2⟩
theorem Gle.drop {A B:Gh} (h:Gle A B) (n:Nat):Gle (A.drop n) B:=⟨fun k hk=>h.1 k hk.1,h.2.1,h.2.2.1,h.2.2.2⟩

variable {C:Ctx} {R:Rt} {G G0:Gh} {st:St} {a:Act} {w:World}
def jla (R:Rt) (G:Gh) (h:List (Nat × Blk)) (vs:List SV) (us:List Value):Prop :=
 us.length=vs.length∧∀(j:Nat) x,vs[j]? = some x→∃u,us[j]? = some u∧u.oneCell'=true∧CRel R G h x u
theorem jla.tail {h:List (Nat × Blk)} {v:SV} {vs:List SV} {us:List Value} (H:jla R G h (v :: vs) us):∃u us',us=u :: us'∧u.oneCell'=true∧CRel R G h v u∧jla R G h vs us':=by
 obtain ⟨h1,h2⟩:=H
 cases us with
 | nil=>simp at h1
 | cons u us' =>
  obtain ⟨u',h3,h4,h5⟩:=h2 0 v rfl
  simp at h3;subst h3
  exact ⟨u,us',rfl,h4,h5,by simpa using h1,fun j x hj=>by simpa using h2 (j+1) x (by simpa using hj)⟩

theorem jrb {S:Nat→Prop} {h0:List (Nat × Blk)}:∀(ks:List (Option (Nat × Nat))) (vs:List SV) (us:List Value) (st:St) (G:Gh) (ds:List D) (st':St),InvS S C R G st a w→Gle G G0→Has G0 h0 G st.h→(∀e sz,some (e,sz)∈ks→EOk C.P e sz)→jla R G0 h0 vs us→takeK st ks vs=some (ds,st') →
  ∃G' θ,InvS S C R G' st' a w∧Gle G' G∧Has G0 h0 G' st'.h∧KC C.P R w ks ds us θ∧Mine R w θ∧jow θ∧(∀j k,θ j k→∃n,(G.live n∧¬ S n)∧G.φ n k)∧(∀j k n,θ j k→G'.live n→¬ S n→G'.φ n k→False)∧Fr G st.h G' st'.h∧(∀m,G.live m→S m→G'.live m)∧Has G st.h G' st'.h
 | [],[],us,st,G,ds,st',H,hG,hHas,hE,hu,h=>by
  simp only [takeK,Option.some.injEq,Prod.mk.injEq] at h
  obtain ⟨rfl,rfl⟩:=h
  exact ⟨G,fun _ _=>False,H,Gle.refl G,hHas,⟨rfl,by simpa using hu.1,fun j k d u h=>by simp at h⟩,fun _ _ h=>h.elim,fun _ _ _ h=>h.elim,fun _ _ h=>h.elim,fun _ _ _ h=>h.elim,Fr.refl _ _,fun _ h _=>h,Has.refl _ _⟩
 | none :: ks,.d x :: vs,us,st,G,ds,st',H,hG,hHas,hE,hu,h=>by
  obtain ⟨u,us',rfl,h1,h2,hu'⟩:=hu.tail
  simp only [takeK] at h
  split at h
  ·rename_i xs st2 heq
   cases h
   obtain ⟨G',θ,i1,i2,i8,⟨k1,k2,k3⟩,i4,i5,i6,i7,i9,i10,i11⟩:=jrb ks vs us' st G xs st' H hG hHas (fun e' sz' hm=>hE e' sz' (by simp [hm])) hu' heq
   refine ⟨G',fun j k=>match j with | 0=>False | j+1=>θ j k,i1,i2,i8,⟨by simp [k1],by simp [k2],fun j k d u' a1 a2 a3=>?_⟩,?_,?_,?_,?_,i9,i10,i11⟩
   ·cases j with
    | zero=>simp at a1 a2 a3;subst a1 a2 a3;exact ⟨h1,h2⟩
    | succ j=>exact k3 j k d u' (by simpa using a1) (by simpa using a2) (by simpa using a3)
   ·intro j k hk;cases j with | zero=>exact hk.elim | succ j=>exact i4 j k hk
   ·intro i j k hi hj;cases i with | zero=>exact hi.elim | succ i=>cases j with | zero=>exact hj.elim | succ j=>rw [i5 i j k hi hj]
   ·intro j k hk;cases j with | zero=>exact hk.elim | succ j=>exact i6 j k hk
   ·intro j k n hk;cases j with | zero=>exact hk.elim | succ j=>exact i7 j k n hk
  ·cases h
 | some (e,sz) :: ks,v :: vs,us,st,G,ds,st',H,hG,hHas,hE,hu,h=>by
  obtain ⟨u,us',rfl,h1,h2,hu'⟩:=hu.tail
  simp only [takeK] at h
  split at h
  ·-- nil
   split at h
   ·rename_i xs st2 heq
    cases h
    obtain ⟨G',θ,i1,i2,i8,⟨k1,k2,k3⟩,i4,i5,i6,i7,i9,i10,i11⟩:=jrb ks vs us' st G xs st' H hG hHas (fun e' sz' hm=>hE e' sz' (by simp [hm])) hu' heq
    refine ⟨G',fun j k=>match j with | 0=>False | j+1=>θ j k,i1,i2,i8,⟨by simp [k1],by simp [k2],fun j k d u' a1 a2 a3=>?_⟩,?_,?_,?_,?_,i9,i10,i11⟩
    ·cases j with
     | zero =>
      simp at a1 a2 a3;subst a1 a2 a3
      have hv:u=.slice none 0 0:=h2
      exact ⟨h1,[],rfl,.inl (.inl ⟨hv,rfl⟩),hE e sz (by simp)⟩
     | succ j=>exact k3 j k d u' (by simpa using a1) (by simpa using a2) (by simpa using a3)
    ·intro j k hk;cases j with | zero=>exact hk.elim | succ j=>exact i4 j k hk
    ·intro i j k hi hj;cases i with | zero=>exact hi.elim | succ i=>cases j with | zero=>exact hj.elim | succ j=>rw [i5 i j k hi hj]
    ·intro j k hk;cases j with | zero=>exact hk.elim | succ j=>exact i6 j k hk
    ·intro j k n hk;cases j with | zero=>exact hk.elim | succ j=>exact i7 j k n hk
   ·cases h
  ·rename_i n
   split at h
   ·rename_i e' sz' xs hrow
    split at h
    ·rename_i he
     obtain ⟨rfl,rfl⟩:=he
     split at h
     ·rename_i ys st2 heq
      cases h
      have hS:=H.all n _ hrow
      have hlive:G.live n:=hHas.live h2.1 hrow
      obtain ⟨b,hb,hbr⟩:=H.B.rel n hlive hS
      rw [hrow] at hb;cases hb
      obtain ⟨r1,r2,r3,r4⟩:=hbr
      obtain ⟨G',θ,i1,i2,i8,⟨k1,k2,k3⟩,i4,i5,i6,i7,i9,i10,i11⟩:=jrb ks vs us' (st.give n) (G.drop n) ys st' (jch H hrow) (hG.drop n) hHas.give (fun e2 sz2 hm=>hE e2 sz2 (by simp [hm])) hu' heq
      refine ⟨G',fun j k=>match j with | 0=>G.φ n k | j+1=>θ j k,i1,i2.trans ((Gle.refl G).drop n),i8,⟨by simp [k1],by simp [k2],fun j k d u' a1 a2 a3=>?_⟩,?_,?_,?_,?_,(jyl hlive).trans i9,fun m hm hSm=>i10 m ⟨hm,fun e=>hS (e ▸ hSm)⟩ hSm,(jyr G n).trans i11⟩
      ·cases j with
       | zero =>
        simp at a1 a2 a3;subst a1 a2 a3
        refine ⟨h1,xs,rfl,?_,r2,r3⟩
        have:u=G.hv n:=by rw [hG.2.2.1];exact h2.2.1
        rw [this];exact r1
       | succ j=>exact k3 j k d u' (by simpa using a1) (by simpa using a2) (by simpa using a3)
      ·intro j k hk
       cases j with
       | zero=>obtain ⟨m1,m2⟩:=H.B.mine n hlive hS k hk;exact ⟨m1,m2,fun lo hi=>r4 k lo hi hk⟩
       | succ j=>exact i4 j k hk
      ·intro i j k hi hj
       cases i with
       | zero =>
        cases j with
        | zero=>rfl
        | succ j =>
         obtain ⟨m,m1,m2⟩:=i6 j k hj
         exact (H.B.disj n m hlive hS m1.1.1 m1.2 (Ne.symm m1.1.2) k hi m2).elim
       | succ i =>
        cases j with
        | zero =>
         obtain ⟨m,m1,m2⟩:=i6 i k hi
         exact (H.B.disj n m hlive hS m1.1.1 m1.2 (Ne.symm m1.1.2) k hj m2).elim
        | succ j=>rw [i5 i j k hi hj]
      ·intro j k hk
       cases j with
       | zero=>exact ⟨n,⟨hlive,hS⟩,hk⟩
       | succ j=>obtain ⟨m,m1,m2⟩:=i6 j k hk;exact ⟨m,⟨m1.1.1,m1.2⟩,m2⟩
      ·intro j k m hk hm hmS hφ
       cases j with
       | zero =>
        have hm':=i2.1 m hm
        rw [i2.2.2.2] at hφ
        exact H.B.disj n m hlive hS hm'.1 hmS (Ne.symm hm'.2) k hk hφ
       | succ j=>exact i7 j k m hk hm hmS hφ
     ·cases h
    ·cases h
   ·cases h
  ·cases h
 | [],v :: vs,us,st,G,ds,st',H,hG,hHas,hE,hu,h=>by simp [takeK] at h
 | none :: ks,[],us,st,G,ds,st',H,hG,hHas,hE,hu,h=>by simp [takeK] at h
 | none :: ks,.nils :: vs,us,st,G,ds,st',H,hG,hHas,hE,hu,h=>by simp [takeK] at h
 | none :: ks,.own _ :: vs,us,st,G,ds,st',H,hG,hHas,hE,hu,h=>by simp [takeK] at h
 | none :: ks,.ptr _ _ :: vs,us,st,G,ds,st',H,hG,hHas,hE,hu,h=>by simp [takeK] at h
 | none :: ks,.nilp :: vs,us,st,G,ds,st',H,hG,hHas,hE,hu,h=>by simp [takeK] at h
 | none :: ks,.pv _ _ :: vs,us,st,G,ds,st',H,hG,hHas,hE,hu,h=>by simp [takeK] at h
 | none :: ks,.rp _ _ _ :: vs,us,st,G,ds,st',H,hG,hHas,hE,hu,h=>by simp [takeK] at h
 | none :: ks,.agg _ :: vs,us,st,G,ds,st',H,hG,hHas,hE,hu,h=>by simp [takeK] at h
 | none :: ks,.tup _ :: vs,us,st,G,ds,st',H,hG,hHas,hE,hu,h=>by simp [takeK] at h
 | none :: ks,.fn _ :: vs,us,st,G,ds,st',H,hG,hHas,hE,hu,h=>by simp [takeK] at h
 | none :: ks,.op _ _ :: vs,us,st,G,ds,st',H,hG,hHas,hE,hu,h=>by simp [takeK] at h
 | none :: ks,.fp _ _ _ :: vs,us,st,G,ds,st',H,hG,hHas,hE,hu,h=>by simp [takeK] at h
 | none :: ks,.bx _ _ x :: vs,us,st,G,ds,st',H,hG,hHas,hE,hu,h=>by
  obtain ⟨u,us',rfl,h1,h2,hu'⟩:=hu.tail
  simp only [takeK] at h
  split at h
  ·rename_i xs st2 heq
   cases h
   obtain ⟨G',θ,i1,i2,i8,⟨k1,k2,k3⟩,i4,i5,i6,i7,i9,i10,i11⟩:=jrb ks vs us' st G xs st' H hG hHas (fun e' sz' hm=>hE e' sz' (by simp [hm])) hu' heq
   refine ⟨G',fun j k=>match j with | 0=>False | j+1=>θ j k,i1,i2,i8,⟨by simp [k1],by simp [k2],fun j k d u' a1 a2 a3=>?_⟩,?_,?_,?_,?_,i9,i10,i11⟩
   ·cases j with
    | zero=>simp at a1 a2 a3;subst a1 a2 a3;exact ⟨h1,h2.2⟩
    | succ j=>exact k3 j k d u' (by simpa using a1) (by simpa using a2) (by simpa using a3)
   ·intro j k hk;cases j with | zero=>exact hk.elim | succ j=>exact i4 j k hk
   ·intro i j k hi hj;cases i with | zero=>exact hi.elim | succ i=>cases j with | zero=>exact hj.elim | succ j=>rw [i5 i j k hi hj]
   ·intro j k hk;cases j with | zero=>exact hk.elim | succ j=>exact i6 j k hk
   ·intro j k n hk;cases j with | zero=>exact hk.elim | succ j=>exact i7 j k n hk
  ·cases h
 | none :: ks,.fb _ _ :: vs,us,st,G,ds,st',H,hG,hHas,hE,hu,h=>by simp [takeK] at h
 | none :: ks,.undef :: vs,us,st,G,ds,st',H,hG,hHas,hE,hu,h=>by simp [takeK] at h
 | some _ :: ks,[],us,st,G,ds,st',H,hG,hHas,hE,hu,h=>by simp [takeK] at h
theorem jhb {G':Gh} {h h':List (Nat × Blk)} {P:Program} {k:Nat} {b:Blk} (hs:∀n,Same G h G' h' n) (hφ:G'.φ k=G.φ k) (hb:G'.base k=G.base k) (hh:G'.hv k=G.hv k) (hx:BRel R G h P w k b):BRel R G' h' P w k b:=by
 cases b with
 | row e sz xs=>simp only [BRel,hφ,hh] at hx ⊢;exact hx
 | box cs =>
  obtain ⟨cur,e,h1,h2,h3,h4,h5⟩:=hx
  refine ⟨cur,e,by rw [hb];exact h1,by rw [hφ,hb];exact h2,by rw [hb];exact h3,by rw [hb];exact h4,fun j x hj=>?_⟩
  obtain ⟨u,h6,h7,h8⟩:=h5 j x hj
  exact ⟨u,by rw [hb];exact h6,h7,jea (fun n _=>hs n) h8⟩
def Gh.add (G:Gh) (n:Nat) (b:Nat × Nat) (v:Value) (ψ:Nat→Prop):Gh :=
 ⟨fun k=>G.live k∨k=n,fun k=>if k=n then b else G.base k,fun k=>if k=n then v else G.hv k,fun k=>if k=n then ψ else G.φ k⟩
theorem jka (h:List (Nat × Blk)) (n:Nat) (b:Blk) (k:Nat):hlk (h++[(n,b)]) k=match hlk h k with | some x=>some x | none=>if n=k then some b else none:=by
 rw [jje];rfl
theorem jqk {h:List (Nat × Blk)} {n:Nat} {b:Nat × Nat} {v:Value} {ψ:Nat→Prop} {x:Blk} (hn:hlk h n=none):Fr G h (G.add n b v ψ) (h++[(n,x)]):=fun m cs ⟨h1,h2,h3⟩=>by
 refine ⟨fun hh=>?_,by rw [jka,h2],h3⟩
 rcases hh with hh | rfl
 ·exact h1 hh
 ·rw [hn] at h2;cases h2

theorem joe {h:List (Nat × Blk)} {n:Nat} (hn:¬ G.live n) (b:Nat × Nat) (v:Value) (ψ:Nat→Prop) (x:Blk):∀k,Same G h (G.add n b v ψ) (h++[(n,x)]) k:=by
 intro k hk
 have hkn:k≠n:=fun e=>hn (e ▸ hk)
 exact ⟨.inl hk,by simp [Gh.add,hkn],by simp [Gh.add,hkn],fun e sz xs hx=>⟨xs,by rw [jka,hx]⟩⟩
theorem jeg {S:Nat→Prop} {n:Nat} {b:Nat × Nat} {v:Value} {ψ:Nat→Prop} {x:Blk} (H:InvS S C R G st a w) (hn:hlk st.h n=none) (hS:¬ S n) (hψ:∀k,ψ k→k < w.heap.size∧(R.L k∨R.w0.heap.size≤k)) (hd:∀k m,ψ k→G.live m→¬ S m→G.φ m k→False)
  (hb:BRel R (G.add n b v ψ) (st.h++[(n,x)]) C.P w n x):InvS S C R (G.add n b v ψ) { st with h:=st.h++[(n,x)] } a w:=by
 have hl:¬ G.live n:=fun h=>by obtain ⟨b,hb,_⟩:=H.B.rel n h hS;rw [hn] at hb;cases hb
 refine ⟨H.W,⟨fun k hk hkS=>?_,fun k m hk hkS hm hmS hkm j hj1 hj2=>?_,fun k hk hkS j hj=>?_,fun k b' hf=>?_⟩,fun k y hy=>?_,fun t=>jib (joe hl b v ψ x) (H.slots t),H.l,H.m⟩
 ·rcases hk with hk | rfl
  ·obtain ⟨y,h1,h2⟩:=H.B.rel k hk hkS
   have hkn:k≠n:=fun e=>hl (e ▸ hk)
   exact ⟨y,by show hlk (st.h++[(n,x)]) k=_;rw [jka,h1],jhb (joe hl b v ψ x) (by simp [Gh.add,hkn]) (by simp [Gh.add,hkn]) (by simp [Gh.add,hkn]) h2⟩
  ·exact ⟨x,by show hlk (st.h++[(k,x)]) k=_;rw [jka,hn];simp,hb⟩
 ·have e1:∀k,k≠n→(G.add n b v ψ).φ k=G.φ k:=fun k h=>by simp [Gh.add,h]
  have e2:(G.add n b v ψ).φ n=ψ:=by simp [Gh.add]
  rcases hk with hk | rfl<;>rcases hm with hm | rfl
  ·rw [e1 k (fun e=>hl (e ▸ hk))] at hj1
   rw [e1 m (fun e=>hl (e ▸ hm))] at hj2
   exact H.B.disj k m hk hkS hm hmS hkm j hj1 hj2
  ·rw [e1 k hkm] at hj1
   rw [e2] at hj2
   exact hd j k hj2 hk hkS hj1
  ·rw [e2] at hj1
   rw [e1 m (Ne.symm hkm)] at hj2
   exact hd j m hj1 hm hmS hj2
  ·exact hkm rfl
 ·rcases hk with hk | rfl
  ·rw [show (G.add n b v ψ).φ k=G.φ k by simp [Gh.add,show k≠n from fun e=>hl (e ▸ hk)]] at hj
   exact H.B.mine k hk hkS j hj
  ·rw [show (G.add k b v ψ).φ k=ψ by simp [Gh.add]] at hj
   exact hψ j hj
 ·obtain ⟨h1,h2,h3⟩:=H.B.fix k b' hf
  have hkn:k≠n:=fun e=>hl (e ▸ h1)
  refine ⟨.inl h1,by simp [Gh.add,hkn,h2],fun hkS=>?_⟩
  obtain ⟨cs,hc⟩:=h3 hkS
  exact ⟨cs,by show hlk (st.h++[(n,x)]) k=_;rw [jka,hc]⟩
 ·have hy':hlk (st.h++[(n,x)]) k=some y:=hy
  rw [jka] at hy'
  cases hk:hlk st.h k with
  | some z=>exact H.all k z hk
  | none =>
   rw [hk] at hy'
   dsimp only at hy'
   split at hy'
   ·rename_i e;exact e ▸ hS
   ·cases hy'

theorem jmd {S:Nat→Prop}:∀(ns:List Nat) (ks:List (Option (Nat × Nat))) (ds:List D) (us:List Value) (θ:Nat→Nat→Prop) (svs:List SV) (new:List (Nat × Blk)) (G:Gh) (st st2:St),layK ns ks ds=some (svs,new)→InvS S C R G st a w →
  KC C.P R w ks ds us θ→Mine R w θ→jow θ→(∀j k n,θ j k→G.live n→¬ S n→G.φ n k→False)→(∀p∈new,¬ S p.1)→adds st new=some st2 →
  ∃G2,InvS S C R G2 st2 a w∧(∀n,Same G st.h G2 st2.h n)∧jla R G2 st2.h svs us∧(∀n,G.live n→G2.φ n=G.φ n)∧(∀n k,G2.live n→G2.φ n k→((G.live n∧G.φ n k)∨∃j,θ j k))∧Fr G st.h G2 st2.h
 | [],[],[],us,θ,svs,new,G,st,st2,h,H,hK,hM,hA,hD,hN,ha=>by
  simp only [layK,Option.some.injEq,Prod.mk.injEq] at h
  obtain ⟨rfl,rfl⟩:=h
  simp only [adds,Option.some.injEq] at ha
  subst ha
  exact ⟨G,H,Same.refl G st.h,⟨by simpa using hK.2.1,fun j x hj=>by simp at hj⟩,fun n _=>rfl,fun n k h1 h2=>.inl ⟨h1,h2⟩,Fr.refl _ _⟩
 | n :: ns,none :: ks,d :: ds,us,θ,svs,new,G,st,st2,h,H,⟨k1,k2,k3⟩,hM,hA,hD,hN,ha=>by
  simp only [layK] at h
  split at h
  ·rename_i sa b heq
   cases h
   cases us with
   | nil=>simp at k2
   | cons u us =>
    obtain ⟨G2,i1,i2,i3,i4,i5,i6⟩:=jmd ns ks ds us (fun j=>θ (j+1)) sa _ G st st2 heq H ⟨by simpa using k1,by simpa using k2,fun j k d u a1 a2 a3=>k3 (j+1) k d u (by simpa using a1) (by simpa using a2) (by simpa using a3)⟩
     (fun j k hk=>hM (j+1) k hk) (fun i j k hi hj=>by have:=hA _ _ _ hi hj;omega) (fun j k m hk=>hD (j+1) k m hk) hN ha
    obtain ⟨h1,h2⟩:=k3 0 none d u rfl rfl rfl
    refine ⟨G2,i1,i2,⟨by simp [i3.1],fun j x hj=>?_⟩,i4,fun m k m1 m2=>?_,i6⟩
    ·cases j with
     | zero=>simp at hj;subst hj;exact ⟨u,rfl,h1,h2⟩
     | succ j=>simpa using i3.2 j x (by simpa using hj)
    ·rcases i5 m k m1 m2 with h | ⟨j,hj⟩
     ·exact .inl h
     ·exact .inr ⟨j+1,hj⟩
  ·cases h
 | n :: ns,some (e,sz) :: ks,.l ys :: ds,us,θ,svs,new,G,st,st2,h,H,⟨k1,k2,k3⟩,hM,hA,hD,hN,ha=>by
  simp only [layK] at h
  split at h
  ·rename_i sa b heq
   cases h
   cases us with
   | nil=>simp at k2
   | cons u us =>
    simp only [adds] at ha
    split at ha
    ·cases ha
    ·rename_i hnone
     obtain ⟨h1,xs,hxs,h2,h3,h4⟩:=k3 0 (some (e,sz)) (.l ys) u rfl rfl rfl
     cases hxs
     have hS:¬ S n:=hN (n,.row e sz ys) (by simp)
     have hl:¬ G.live n:=fun hh=>by obtain ⟨b,hb,_⟩:=H.B.rel n hh hS;rw [hnone] at hb;cases hb
     have H1:InvS S C R (G.add n (0,0) u (θ 0)) { st with h:=st.h++[(n,.row e sz ys)] } a w :=
      jeg H hnone hS (fun k hk=>⟨(hM 0 k hk).1,(hM 0 k hk).2.1⟩) (fun k m hk=>hD 0 k m hk)
       ⟨by simp only [Gh.add,if_true];exact h2,h3,h4,fun k lo hi hk=>by simp only [Gh.add,if_true] at hk;exact (hM 0 k hk).2.2 lo hi⟩
     obtain ⟨G2,i1,i2,i3,i4,i5,i6⟩:=jmd ns ks ds us (fun j=>θ (j+1)) sa b (G.add n (0,0) u (θ 0)) _ st2 heq H1 ⟨by simpa using k1,by simpa using k2,fun j k d u a1 a2 a3=>k3 (j+1) k d u (by simpa using a1) (by simpa using a2) (by simpa using a3)⟩
      (fun j k hk=>hM (j+1) k hk) (fun i j k hi hj=>by have:=hA _ _ _ hi hj;omega)
      (fun j k m hk hm hmS hφ=>by
       rcases hm with hm | rfl
       ·rw [show (G.add n (0,0) u (θ 0)).φ m=G.φ m by simp [Gh.add,show m≠n from fun e=>hl (e ▸ hm)]] at hφ
        exact hD (j+1) k m hk hm hmS hφ
       ·rw [show (G.add m (0,0) u (θ 0)).φ m=θ 0 by simp [Gh.add]] at hφ
        have:=hA _ _ _ hk hφ
        omega) (fun p hp=>hN p (by simp [hp])) ha
     have hself:=i2 n (.inr rfl)
     have i2':∀m,Same G st.h G2 st2.h m:=by
      intro m hm
      have hmn:m≠n:=fun e=>hl (e ▸ hm)
      obtain ⟨s1,s2,s3,s4⟩:=i2 m (.inl hm)
      refine ⟨s1,by rw [s2];simp [Gh.add,hmn],by rw [s3];simp [Gh.add,hmn],fun e' sz' xs' hx=>s4 e' sz' xs' ?_⟩
      show hlk (st.h++[(n,.row e sz ys)]) m=_
      rw [jka,hx]
     refine ⟨G2,i1,i2',⟨by simp [i3.1],fun j x hj=>?_⟩,fun m hm=>?_,fun m k m1 m2=>?_,(jqk hnone).trans i6⟩
     ·cases j with
      | zero =>
       simp at hj;subst hj
       exact ⟨u,rfl,h1,hself.1,by rw [hself.2.2.1];simp [Gh.add],h1⟩
      | succ j=>simpa using i3.2 j x (by simpa using hj)
     ·rw [i4 m (.inl hm)];simp [Gh.add,show m≠n from fun e=>hl (e ▸ hm)]
     ·rcases i5 m k m1 m2 with ⟨h5,h6⟩ | ⟨j,hj⟩
      ·rcases h5 with h5 | rfl
       ·rw [show (G.add n (0,0) u (θ 0)).φ m=G.φ m by simp [Gh.add,show m≠n from fun e=>hl (e ▸ h5)]] at h6
        exact .inl ⟨h5,h6⟩
       ·rw [show (G.add m (0,0) u (θ 0)).φ m=θ 0 by simp [Gh.add]] at h6
        exact .inr ⟨0,h6⟩
      ·exact .inr ⟨j+1,hj⟩
  ·cases h
 | [],_ :: _,ds,us,θ,svs,new,G,st,st2,h,H,hK,hM,hA,hD,hN,ha=>by simp [layK] at h
 | [],[],_ :: _,us,θ,svs,new,G,st,st2,h,H,hK,hM,hA,hD,hN,ha=>by simp [layK] at h
 | _ :: _,[],ds,us,θ,svs,new,G,st,st2,h,H,hK,hM,hA,hD,hN,ha=>by simp [layK] at h
 | _ :: _,none :: _,[],us,θ,svs,new,G,st,st2,h,H,hK,hM,hA,hD,hN,ha=>by simp [layK] at h
 | _ :: _,some _ :: _,[],us,θ,svs,new,G,st,st2,h,H,hK,hM,hA,hD,hN,ha=>by simp [layK] at h
 | _ :: _,some _ :: _,.b _ :: _,us,θ,svs,new,G,st,st2,h,H,hK,hM,hA,hD,hN,ha=>by simp [layK] at h
 | _ :: _,some _ :: _,.i _ _ :: _,us,θ,svs,new,G,st,st2,h,H,hK,hM,hA,hD,hN,ha=>by simp [layK] at h
 | _ :: _,some _ :: _,.s _ :: _,us,θ,svs,new,G,st,st2,h,H,hK,hM,hA,hD,hN,ha=>by simp [layK] at h
end Go.Den

/- What a function promises. -/
namespace Go.Den
open Go

def ArgK (P:Program) (R:Rt):Mode→DV→Value→(Nat→Nat→Prop)→Prop
 | .bor,.one d,v,_=>Rep R.w0 R.T d v
 | .bor,.agg ds,v,_=>∃us:List Value,v=.agg us.toArray∧us.length=ds.length∧∀(j:Nat) d,ds[j]? = some d→∃u,us[j]? = some u∧Rep R.w0 R.T d u
 | .rptr sz,.ptr ds,v,_=>ds.length=sz∧PvR R ds 0 v
 | .fnp f sz,.ptr ds,v,_=>ds.length=sz∧∃p,v=.func (.func f) #[p] #[]∧PvR R ds 0 p
 | .ptr ks,.ptr ds,v,θ=>∃g o cur e us,v=.pointer (some ⟨g,o,none⟩)∧R.w0.heap[g]? = some (.cells cur e (0,0))∧θ 0 g∧o+ds.length≤cur.size∧(∀(j:Nat) u,us[j]? = some u→cur[o+j]? = some u) ∧
   KC P R R.w0 ks ds us (fun j=>θ (j+1))∧∀lo hi,R.LB g lo hi→lo≤o∧o+ds.length≤hi
 | .own ks,.agg ds,v,θ=>∃us:List Value,v=.agg us.toArray∧KC P R R.w0 ks ds us (fun j=>θ (j+1))
 | .own ks,.one d,v,θ=>KC P R R.w0 ks [d] [v] (fun j=>θ (j+1))
 | .io ks,.agg ds,v,θ=>∃us:List Value,v=.agg us.toArray∧KC P R R.w0 ks ds us (fun j=>θ (j+1))
 | .io ks,.one d,v,θ=>KC P R R.w0 ks [d] [v] (fun j=>θ (j+1))∧v.oneCell'=true
 | _,_,_,_=>False
def jwf (P:Program) (R:Rt):List Mode→List DV→List Value→(Nat→Nat→Nat→Prop)→Prop
 | [],[],[],_=>True
 | m :: ms,x :: xs,v :: vs,Θ=>ArgK P R m x v (Θ 0)∧jwf P R ms xs vs (fun i=>Θ (i+1))
 | _,_,_,_=>False
def jic (Θ:Nat→Nat→Nat→Prop):Prop:=∀i j i' j' k,Θ i j k→Θ i' j' k→i=i'∧j=j'
structure Pre (P:Program) (sg:Sig) (R:Rt) (xs:List DV) (vs:List Value) (Θ:Nat→Nat→Nat→Prop):Prop where
 W:WInv R R.w0
 args:jwf P R sg.ms xs vs Θ
 mine:∀i j k,Θ i j k→k < R.w0.heap.size∧R.L k
 lb:∀i j k,Θ i (j+1) k→∀lo hi,¬ R.LB k lo hi
 apart:jic Θ
 noLB:noPtr sg.ms=true→∀k lo hi,¬ R.LB k lo hi

def RetK (P:Program) (R:Rt) (w:World) (ks:List (Option (Nat × Nat))):DV→Value→(Nat→Nat→Prop)→Prop
 | .one d,v,θ=>KC P R w ks [d] [v] θ∧scAll ks [d]=true
 | .agg ds,v,θ=>(∃us:List Value,v=.agg us.toArray∧KC P R w ks ds us θ)∧scAll ks ds=true
 | _,_,_=>False
def jxf (P:Program) (R:Rt) (w:World):List (List (Option (Nat × Nat)))→List DV→List Value→(Nat→Nat→Nat→Prop)→Prop
 | [],[],[],_=>True
 | ks :: kss,x :: xs,v :: vs,Θ=>RetK P R w ks x v (Θ 0)∧jxf P R w kss xs vs (fun i=>Θ (i+1))
 | _,_,_,_=>False
def ScK (R:Rt):DV→Value→Prop
 | .one d,v=>isSc d=true∧Rep R.w0 R.T d v
 | .agg ds,v=>∃us:List Value,v=.agg us.toArray∧us.length=ds.length∧∀(j:Nat) d,ds[j]? = some d→isSc d=true∧∃u,us[j]? = some u∧Rep R.w0 R.T d u
 | _,_=>False
def ScsK (R:Rt):List DV→List Value→Prop
 | [],[]=>True
 | x :: xs,v :: vs=>ScK R x v∧ScsK R xs vs
 | _,_=>False
def ShV:List DV→List Value→Prop
 | [],[]=>True
 | .agg a :: r,v :: q=>(∃us:List Value,v=.agg us.toArray∧us.length=a.length∧∀u∈us,u.oneCell'=true)∧ShV r q
 | .one _ :: r,_ :: q=>ShV r q
 | _,_=>False
def ResK (P:Program) (R:Rt) (w:World):RMode→List DV→List Value→(Nat→Nat→Nat→Prop)→Prop
 | .sc _,rs,vs,_=>ScsK R rs vs
 | .ep _,rs,vs,_=>∃b ds v,rs=[.one (.b b),.agg ds]∧vs=[v]∧(b=true→PvR R ds 0 v)∧(b=false→v=.pointer none)
 | .fresh kss,rs,vs,Θ=>jxf P R w kss rs vs Θ
 | .freshT zs kss,rs,vs,Θ=>∃b us,jvb rs=some b∧vs=us++[.bool b]∧ShV zs vs∧(b=true→jxf P R w kss rs vs Θ)
 | .nptr ks,rs,vs,Θ=>∃(ds:List D) (g o:Nat) (cur:Array Value) (e:Nat) (us:List Value),rs=[.ptr ds]∧vs=[.pointer (some ⟨g,o,none⟩)]∧w.heap[g]? = some (.cells cur e (0,0))∧Θ 0 0 g∧o+ds.length≤cur.size ∧
   (∀(j:Nat) u,us[j]? = some u→cur[o+j]? = some u)∧KC P R w ks ds us (fun j=>Θ 0 (j+1))∧∀lo hi,¬ R.LB g lo hi
def jyc (P:Program) (R:Rt) (w:World):List Mode→List Value→List (List D)→(Nat→Nat→Nat→Prop)→Prop
 | .ptr ks :: ms,v :: vs,o :: os,Θ=>(∃g b cur e us,v=.pointer (some ⟨g,b,none⟩)∧w.heap[g]? = some (.cells cur e (0,0))∧Θ 0 0 g∧b+o.length≤cur.size∧(∀(j:Nat) u,us[j]? = some u→cur[b+j]? = some u) ∧
   KC P R w ks o us (fun j=>Θ 0 (j+1))∧∀(j:Nat) d u,ks[j]? = some none→o[j]? = some d→isSc d=false→us[j]? = some u→R.w0.cell? ⟨g,b+j,none⟩=some u)∧jyc P R w ms vs os (fun i=>Θ (i+1))
 | .ptr _ :: _,_,_,_=>False
 | .io ks :: ms,v :: vs,o :: os,Θ=>KC P R w ks o v.cells.toList (fun j=>Θ 0 (j+1))∧jyc P R w ms vs os (fun i=>Θ (i+1))
 | .io _ :: _,_,_,_=>False
 | _ :: ms,_ :: vs,os,Θ=>jyc P R w ms vs os (fun i=>Θ (i+1))
 | [],[],[],_=>True
 | _,_,_,_=>False
def jke (vs:List Value):Value:=match vs with | [v]=>v | vs=>.tuple vs.toArray
structure Post (P:Program) (sg:Sig) (R:Rt) (vs:List Value) (rs:List DV) (outs:List (List D)) (rv:List Value) (w:World) (Ξ Ω:Nat→Nat→Nat→Prop):Prop where
 W:WInv R w
 res:ResK P R w sg.r rs rv Ξ
 outs:jyc P R w sg.ms vs outs Ω
 mineR:∀i j k,Ξ i j k→k < w.heap.size∧(R.L k∨R.w0.heap.size≤k)∧∀lo hi,¬ R.LB k lo hi
 mineO:∀i j k,Ω i j k→k < w.heap.size∧(R.L k∨R.w0.heap.size≤k)
 lbO:∀i j k,Ω i (j+1) k→∀lo hi,¬ R.LB k lo hi
 apartR:jic Ξ
 apartO:jic Ω
 apart:∀i j i' j' k,Ξ i j k→Ω i' j' k→False

def SpecOk (P:Program) (sg:Sig) (F:List DV→Option (List DV × List (List D))) (f:Nat):Prop :=
 ∀(R:Rt) (xs:List DV) (vs:List Value) (Θ:Nat→Nat→Nat→Prop) (rs:List DV) (outs:List (List D)),F xs=some (rs,outs)→R.fix=(fun _=>none)→Pre P sg R xs vs Θ →
  Calls P f vs.toArray R.w0 fun e w=>∃rv Ξ Ω,e=.returned (jke rv)∧Post P sg R vs rs outs rv w Ξ Ω
def KOk (P:Program) (ks:List (Option (Nat × Nat))):Prop:=∀e sz,some (e,sz)∈ks→EOk P e sz
def jvr (P:Program) (sg:Sig):Prop :=
 (∀ks,(Mode.ptr ks∈sg.ms∨Mode.own ks∈sg.ms)∨Mode.io ks∈sg.ms→KOk P ks)∧(∀kss,(sg.r=.fresh kss∨(∃zs,sg.r=.freshT zs kss)∨∃ks,kss=[ks]∧sg.r=.nptr ks)→∀ks∈kss,KOk P ks)

variable {C:Ctx} {R:Rt} {G:Gh} {st:St} {a:Act} {w:World}

/-! ### A call that only reads, and gives back scalars -/
def Rt.sub (R:Rt) (G:Gh) (S:Nat→Prop) (w:World) (L:Nat→Prop) (LB:Nat→Nat→Nat→Prop):Rt :=
 ⟨w,fun k=>R.T k∨∃n,(G.live n∧¬ S n)∧G.φ n k,L,LB,fun _=>none⟩
theorem jwd {S:Nat→Prop} {L:Nat→Prop} {LB:Nat→Nat→Nat→Prop} (H:WInv R w) {d:D} {u:Value} (h:Rep R.w0 R.T d u):Rep w (R.sub G S w L LB).T d u :=
 h.mono (fun k hk=>.inl hk) (fun k hk=>H.old k (H.T k hk).1 (H.T k hk).2)
theorem jvu {S:Nat→Prop} {L:Nat→Prop} {LB:Nat→Nat→Nat→Prop} {G0:Gh} {h0:List (Nat × Blk)} (H:InvS S C R G st a w) (hG:Gle G G0) (hH:Has G0 h0 G st.h) {x:SV} {u:Value} {d:D} (hx:CRel R G0 h0 x u) (h:toD st x=some d):Rep w (R.sub G S w L LB).T d u:=by
 unfold toD at h
 split at h
 ·cases h;exact jwd H.W hx
 ·cases h;rw [show u=.slice none 0 0 from hx];exact .nil _ _
 ·cases h;exact jwd H.W hx.2
 ·rename_i n
  split at h
  ·rename_i e sz xs hrow
   cases h
   have hS:=H.all n _ hrow
   have hl:G.live n:=hH.live hx.1 hrow
   obtain ⟨b,hb,hbr⟩:=H.B.rel n hl hS
   rw [hrow] at hb;cases hb
   have:u=G.hv n:=by rw [hG.2.2.1];exact hx.2.1
   rw [this]
   exact hbr.1.rep (fun k hk=>.inr ⟨n,⟨hl,hS⟩,hk⟩)
  ·cases h
 ·rename_i n k
  split at h
  ·rename_i e sz xs hrow
   cases h
   have hS:=H.all n _ hrow
   obtain ⟨hx1,A,len,cap,hv,hk,rfl⟩:=hx
   have hl:G.live n:=hH.live hx1 hrow
   obtain ⟨b,hb,hbr⟩:=H.B.rel n hl hS
   rw [hrow] at hb;cases hb
   have hg:G.hv n=.slice A len cap:=by rw [hG.2.2.1];exact hv
   have hr:Rep w (R.sub G S w L LB).T (.l xs) (G.hv n):=hbr.1.rep (fun k hk=>.inr ⟨n,⟨hl,hS⟩,hk⟩)
   obtain ⟨A',cap',hlen⟩:=hbr.1.len
   rw [hg] at hr hlen
   cases hlen
   exact hr.take hk
  ·cases h
 ·cases h
theorem jym {S:Nat→Prop} {L:Nat→Prop} {LB:Nat→Nat→Nat→Prop} {G0:Gh} {h0:List (Nat × Blk)} (H:InvS S C R G st a w) (hG:Gle G G0) (hH:Has G0 h0 G st.h):∀{xs:List SV} {us:List Value} {ds:List D},jla R G0 h0 xs us→toDs st xs=some ds →
  us.length=ds.length∧∀(j:Nat) d,ds[j]? = some d→∃u,us[j]? = some u∧Rep w (R.sub G S w L LB).T d u
 | [],us,ds,hu,h=>by
  simp only [toDs,Option.some.injEq] at h
  subst h
  exact ⟨by simpa using hu.1,fun j d hj=>by simp at hj⟩
 | x :: xs,us,ds,hu,h=>by
  obtain ⟨u,us',rfl,h1,h2,hu'⟩:=hu.tail
  simp only [toDs] at h
  split at h
  ·rename_i d hd
   split at h
   ·rename_i ds' hds
    cases h
    obtain ⟨h3,h4⟩:=jym (L:=L) (LB:=LB) H hG hH hu' hds
    refine ⟨by simp [h3],fun j y hj=>?_⟩
    cases j with
    | zero=>simp at hj;subst hj;exact ⟨u,rfl,jvu H hG hH h2 hd⟩
    | succ j=>simpa using h4 j y (by simpa using hj)
   ·cases h
  ·cases h
theorem jvd {h0:List (Nat × Blk)} {cs:List SV} {v:Value} (h:VRel R G h0 (.agg cs) v):∃us:List Value,v=.agg us.toArray∧jla R G h0 cs us:=by
 obtain ⟨us,h1,h2,h3⟩:=h
 exact ⟨us,h1,h2,h3⟩
theorem jml {S:Nat→Prop} {L:Nat→Prop} {LB:Nat→Nat→Nat→Prop} {G0:Gh} {h0:List (Nat × Blk)} (H:InvS S C R G st a w) (hG:Gle G G0) (hH:Has G0 h0 G st.h) {m:Mode} {x:SV} {v:Value} {d:DV} (hx:VRel R G0 h0 x v) (hm:∀f sz,m≠.fnp f sz) (h:argOf st m x=some d) (θ:Nat→Nat→Prop) :
  ArgK C.P (R.sub G S w L LB) m d v θ:=by
 unfold argOf at h
 split at h
 ·rename_i cs
  rw [Option.map_eq_some_iff] at h
  obtain ⟨ds,h1,rfl⟩:=h
  obtain ⟨us,h2,h3⟩:=jvd hx
  obtain ⟨h4,h5⟩:=jym (L:=L) (LB:=LB) H hG hH h3 h1
  exact ⟨us,h2,h4,h5⟩
 ·rename_i hna
  rw [Option.map_eq_some_iff] at h
  obtain ⟨d',h1,rfl⟩:=h
  have hc:VRel R G0 h0 x v=CRel R G0 h0 x v:=by
   cases x<;>first | rfl | (simp [toD] at h1)
  rw [hc] at hx
  exact jvu H hG hH hx h1
 ·rename_i sz n off
  split at h
  ·rename_i cs hbox
   split at h
   ·rename_i hlen
    rw [Option.map_eq_some_iff] at h
    obtain ⟨ds,h1,rfl⟩:=h
    have hS:=H.all n _ hbox
    have hl:G.live n:=hH.live hx.1 hbox
    obtain ⟨b,hb,hbr⟩:=H.B.rel n hl hS
    rw [hbox] at hb;cases hb
    obtain ⟨cur,e,hg,hφ,_,hcur,hcell⟩:=hbr
    obtain ⟨_,hv⟩:=hx
    have hb0:G0.base=G.base:=hG.2.1.symm
    rw [hb0] at hv
    -- the cells
    have hus:∃us:List Value,jla R G st.h ((cs.drop off).take sz) us∧∀(j:Nat) u,us[j]? = some u→cur[(G.base n).2+off+j]? = some u:=by
     refine ⟨(cur.toList.drop ((G.base n).2+off)).take sz,⟨by simp;omega,fun j y hj=>?_⟩,fun j u hj=>?_⟩
     ·rw [List.getElem?_take] at hj
      split at hj
      ·rename_i hjs
       rw [List.getElem?_drop] at hj
       obtain ⟨u,h2,h3,h4⟩:=hcell (off+j) y hj
       refine ⟨u,?_,h3,h4⟩
       rw [List.getElem?_take,if_pos hjs,List.getElem?_drop,Nat.add_assoc]
       simpa using h2
      ·cases hj
     ·rw [List.getElem?_take] at hj
      split at hj
      ·rw [List.getElem?_drop] at hj;simpa using hj
      ·cases hj
    obtain ⟨us,h2,h3⟩:=hus
    obtain ⟨h4,h5⟩:=jym (L:=L) (LB:=LB) H (Gle.refl G) (Has.refl G _) h2 h1
    refine ⟨by rw [←h4,h2.1];simp;omega,(G.base n).1,(G.base n).2+off,by simpa using hv,.inr ⟨n,⟨hl,hS⟩,hφ⟩,fun j d hj=>?_⟩
    obtain ⟨u,h6,h7⟩:=h5 j d hj
    exact ⟨u,by show w.cell? _=_;rw [cell_of_row w _ _ cur e (0,0) hg];exact h3 j u h6,h7⟩
   ·cases h
  ·cases h
 ·rename_i sz cs off
  split at h
  ·rename_i hlen
   cases h
   obtain ⟨g,o,hv,hT,hcell⟩:=hx
   refine ⟨by simp;omega,g,o+off,by simpa using hv,.inl hT,fun j d hj=>?_⟩
   rw [List.getElem?_take] at hj
   split at hj
   ·rw [List.getElem?_drop] at hj
    obtain ⟨u,h1,h2⟩:=hcell (off+j) d hj
    refine ⟨u,?_,jwd H.W h2⟩
    show w.cell? _=_
    rw [World.cell?_of_block (w:=R.w0) (H.W.old g (H.W.T g hT).1 (H.W.T g hT).2),Nat.add_assoc]
    exact h1
   ·cases hj
  ·cases h
 ·exact absurd rfl (hm _ _)
 ·exact absurd rfl (hm _ _)
 ·cases h

theorem jrm {S:Nat→Prop} {L:Nat→Prop} {LB:Nat→Nat→Nat→Prop} {G0:Gh} {h0:List (Nat × Blk)} (H:InvS S C R G st a w) (hG:Gle G G0) (hH:Has G0 h0 G st.h) {m:Mode} {x:SV} {v:Value} {d:DV} (hx:VRel R G0 h0 x v) (h:argOf st m x=some d) (θ:Nat→Nat→Prop) :
  ArgK C.P (R.sub G S w L LB) m d v θ:=by
 by_cases hm:∃f sz,m=.fnp f sz
 ·obtain ⟨f,sz,rfl⟩:=hm
  cases x with
  | fp g n off =>
   simp only [argOf] at h
   split at h
   ·rename_i hfg
    subst hfg
    have:=jml (L:=L) (LB:=LB) H hG hH (m:=.rptr sz) (x:=.ptr n off) (v:=.pointer (some ⟨(G0.base n).1,(G0.base n).2+off,none⟩)) (d:=d) ⟨hx.1,rfl⟩ (fun _ _ e=>by cases e) h θ
    cases d with
    | ptr ds=>exact ⟨this.1,_,hx.2,this.2⟩
    | _=>exact this.elim
   ·cases h
  | fb g cs =>
   simp only [argOf] at h
   split at h
   ·rename_i hfg
    obtain ⟨rfl,rfl⟩:=hfg
    cases h
    obtain ⟨p,h1,g,o,h2,hT,hcell⟩:=hx
    refine ⟨rfl,p,h1,g,o,h2,.inl hT,fun j d hj=>?_⟩
    obtain ⟨u,h3,h4⟩:=hcell j d hj
    refine ⟨u,?_,jwd H.W h4⟩
    show w.cell? _=_
    rw [World.cell?_of_block (w:=R.w0) (H.W.old g (H.W.T g hT).1 (H.W.T g hT).2)]
    exact h3
   ·cases h
  | _=>simp [argOf] at h
 ·exact jml H hG hH hx (fun f sz e=>hm ⟨f,sz,e⟩) h θ
theorem jms {h:List (Nat × Blk)}:∀{xs:List SV} {us:List Value} {ds:List D},jla R G h xs us→jfo xs=some ds→us.length=ds.length∧∀(j:Nat) d,ds[j]? = some d→∃u,us[j]? = some u∧Rep R.w0 R.T d u
 | [],us,ds,hu,h=>by
  simp only [jfo,Option.some.injEq] at h
  subst h
  exact ⟨by simpa using hu.1,fun j d hj=>by simp at hj⟩
 | x :: xs,us,ds,hu,h=>by
  obtain ⟨u,us',rfl,h1,h2,hu'⟩:=hu.tail
  simp only [jfo] at h
  split at h
  ·rename_i d ds' hd hds
   cases h
   obtain ⟨h3,h4⟩:=jms hu' hds
   refine ⟨by simp [h3],fun j y hj=>?_⟩
   cases j with
   | zero =>
    simp at hj;subst hj
    cases x<;>simp [borD] at hd
    subst hd
    exact ⟨u,rfl,h2⟩
   | succ j=>simpa using h4 j y (by simpa using hj)
  ·cases h
theorem jdx {P:Program} {L:Nat→Prop} {LB:Nat→Nat→Nat→Prop} {h0:List (Nat × Blk)} (H:WInv R w) {m:Mode} {x:SV} {v:Value} {d:DV} (hx:VRel R G h0 x v) (h:jrs m x=some d) (θ:Nat→Nat→Prop) :
  ArgK P (R.sub G (fun _=>True) w L LB) m d v θ:=by
 have hr:∀{d:D} {u:Value},Rep R.w0 R.T d u→Rep w (R.sub G (fun _=>True) w L LB).T d u:=fun h=>jwd H h
 unfold jrs at h
 split at h
 ·rename_i cs
  rw [Option.map_eq_some_iff] at h
  obtain ⟨ds,h1,rfl⟩:=h
  obtain ⟨us,h2,h3⟩:=jvd hx
  obtain ⟨h4,h5⟩:=jms h3 h1
  exact ⟨us,h2,h4,fun j d hj=>by obtain ⟨u,k1,k2⟩:=h5 j d hj;exact ⟨u,k1,hr k2⟩⟩
 ·cases h;exact hr hx
 ·rename_i sz cs off
  split at h
  ·rename_i hlen
   cases h
   obtain ⟨g,o,hv,hT,hcell⟩:=hx
   refine ⟨by simp;omega,g,o+off,by simpa using hv,.inl hT,fun j d hj=>?_⟩
   rw [List.getElem?_take] at hj
   split at hj
   ·rw [List.getElem?_drop] at hj
    obtain ⟨u,h1,h2⟩:=hcell (off+j) d hj
    refine ⟨u,?_,hr h2⟩
    show w.cell? _=_
    rw [World.cell?_of_block (w:=R.w0) (H.old g (H.T g hT).1 (H.T g hT).2),Nat.add_assoc]
    exact h1
   ·cases hj
  ·cases h
 ·cases h
end Go.Den
