/- Plain laws about what the functions compute, the second part; no condition. -/
import Derived.Test.YtbmgnecedmcneaaGreatL4Pa
set_option linter.unusedVariables false
set_option linter.unusedSimpArgs false
namespace Go.Den.L4
open Go Go.IntWalk
theorem d36 {l1:List (List D)} {n2:Int} (C:Cu l1 n2) (n3:Int) (n4:Int) (n5:Int) (n6:Int)  : PQ zr36 zo36 (fun o=>Cu l1 (asI (outC o 0 1))∧I64 (asI (resC o 0 0))∧I64 (asI (resC o 0 1))∧I64 (asI (resC o 0 2))∧I64 (asI (resC o 0 3))∧I64 (asI (resC o 0 4))∧I64 (asI (resC o 0 5))∧I64 (asI (resC o 0 6))∧EL [.i .i64,.s] 60 (asL (resC o 0 8))∧(asS (resC o 0 9)).size≤1000∧True) (t36 l1 n2 n3 n4 n5 n6):=by
 unfold t36 ta36
 extract_lets -merge -useContext +onlyGivenNames -underBinder y1
 obtain ⟨a_y1,c_y1,b_y1,-⟩:PQ zr29 zo29 _ y1:=d29 C _ _
 clear_value y1
 refine pq_chk a_y1 ?_
 extract_lets -merge -useContext +onlyGivenNames -underBinder y2
 obtain ⟨a_y2,c_y2,b_y2,-⟩:PQ zr29 zo29 _ y2:=d29 c_y1 _ _
 clear_value y2
 refine pq_chk a_y2 ?_
 extract_lets -merge -useContext +onlyGivenNames -underBinder y3
 obtain ⟨a_y3,c_y3,b_y3,-⟩:PQ zr29 zo29 _ y3:=d29 c_y2 _ _
 clear_value y3
 refine pq_chk a_y3 ?_
 extract_lets -merge -useContext +onlyGivenNames -underBinder y4
 obtain ⟨a_y4,c_y4,b_y4,-⟩:PQ zr29 zo29 _ y4:=d29 c_y3 _ _
 clear_value y4
 refine pq_chk a_y4 ?_
 extract_lets -merge -useContext +onlyGivenNames -underBinder k1
 have h_k1:∀(n7:Int) (I_k1_n7:I64 n7),PQ zr36 zo36 (fun o=>Cu l1 (asI (outC o 0 1))∧I64 (asI (resC o 0 0))∧I64 (asI (resC o 0 1))∧I64 (asI (resC o 0 2))∧I64 (asI (resC o 0 3))∧I64 (asI (resC o 0 4))∧I64 (asI (resC o 0 5))∧I64 (asI (resC o 0 6))∧EL [.i .i64,.s] 60 (asL (resC o 0 8))∧(asS (resC o 0 9)).size≤1000∧True) (k1 n7):=by
  intro n7 I_k1_n7
  dsimp -zeta only [k1]
  extract_lets -merge -useContext +onlyGivenNames -underBinder y5
  obtain ⟨a_y5,c_y5,b_y5,-⟩:PQ zr29 zo29 _ y5:=d29 c_y4 _ _
  clear_value y5
  refine pq_chk a_y5 ?_
  extract_lets -merge -useContext +onlyGivenNames -underBinder k2
  have h_k2:∀(n8:Int) (n9:Int) (n10:Int) (I_k2_n8:I64 n8) (C_k2_n9:Cu l1 n9),PQ zr36 zo36 (fun o=>Cu l1 (asI (outC o 0 1))∧I64 (asI (resC o 0 0))∧I64 (asI (resC o 0 1))∧I64 (asI (resC o 0 2))∧I64 (asI (resC o 0 3))∧I64 (asI (resC o 0 4))∧I64 (asI (resC o 0 5))∧I64 (asI (resC o 0 6))∧EL [.i .i64,.s] 60 (asL (resC o 0 8))∧(asS (resC o 0 9)).size≤1000∧True) (k2 n8 n9 n10):=by
   intro n8 n9 n10 I_k2_n8 C_k2_n9
   dsimp -zeta only [k2]
   extract_lets -merge -useContext +onlyGivenNames -underBinder y6
   refine pq_ite (fun g1=>?_) (fun g1=>?_)
   ·
    extract_lets -merge -useContext +onlyGivenNames -underBinder y7
    extract_lets -merge -useContext +onlyGivenNames -underBinder y8
    extract_lets -merge -useContext +onlyGivenNames -underBinder y9
    exact ⟨rfl,C_k2_n9,(show I64 y6 from (i64_w64 _)),(show I64 y7 from (show I64 (asI (resC y2 0 0)) from (i64_b b_y2))),(show I64 y8 from (show I64 (asI (resC y3 0 0)) from (i64_b b_y3))),I_k1_n7,(show I64 y9 from (show I64 (asI (resC y5 0 0)) from (i64_b b_y5))),I_k2_n8,(show I64 (0) by unfold I64;omega),(el_mono (by decide) (el_nil _)),(Nat.le_trans (show (⟨#[]⟩:ByteArray).size≤0 from Nat.le_of_eq rfl) (by decide)),trivial⟩
   ·
    refine pq_ite (fun g2=>?_) (fun g2=>?_)
    ·
     extract_lets -merge -useContext +onlyGivenNames -underBinder y10
     obtain ⟨a_y10,c_y10,-⟩:PQ zr17 zo17 _ y10:=d17 C_k2_n9 _ _
     clear_value y10
     refine pq_chk a_y10 ?_
     extract_lets -merge -useContext +onlyGivenNames -underBinder y11
     extract_lets -merge -useContext +onlyGivenNames -underBinder y12
     exact ⟨rfl,c_y10,(show I64 y6 from (i64_w64 _)),(show I64 y11 from (show I64 (asI (resC y2 0 0)) from (i64_b b_y2))),(show I64 y12 from (show I64 (asI (resC y3 0 0)) from (i64_b b_y3))),I_k1_n7,(show I64 (0) by unfold I64;omega),(show I64 (0) by unfold I64;omega),(show I64 (0) by unfold I64;omega),(el_mono (by decide) (el_nil _)),(Nat.le_trans (show (⟨#[]⟩:ByteArray).size≤0 from Nat.le_of_eq rfl) (by decide)),trivial⟩
    ·
     refine pq_ite (fun g3=>?_) (fun g3=>?_)
     ·
      extract_lets -merge -useContext +onlyGivenNames -underBinder y13
      obtain ⟨a_y13,c_y13,b_y13,-⟩:PQ zr29 zo29 _ y13:=d29 C_k2_n9 _ _
      clear_value y13
      refine pq_chk a_y13 ?_
      extract_lets -merge -useContext +onlyGivenNames -underBinder y14
      obtain ⟨a_y14,c_y14,p_y14,-⟩:PQ zr38 zo38 _ y14:=d38 c_y13 _ _ _ _ (by decide) I_k2_n8
      clear_value y14
      refine pq_chk a_y14 ?_
      extract_lets -merge -useContext +onlyGivenNames -underBinder y15
      extract_lets -merge -useContext +onlyGivenNames -underBinder y16
      extract_lets -merge -useContext +onlyGivenNames -underBinder y17
      exact ⟨rfl,c_y14,(show I64 y6 from (i64_w64 _)),(show I64 y15 from (show I64 (asI (resC y2 0 0)) from (i64_b b_y2))),(show I64 y16 from (show I64 (asI (resC y3 0 0)) from (i64_b b_y3))),I_k1_n7,(show I64 y17 from (show I64 (asI (resC y5 0 0)) from (i64_b b_y5))),I_k2_n8,(show I64 (asI (resC y13 0 0)) from (i64_b b_y13)),(el_mono (by decide) (show EL [.i .i64,.s] 60 (asL (resC y14 0 0)) from p_y14)),(Nat.le_trans (show (⟨#[]⟩:ByteArray).size≤0 from Nat.le_of_eq rfl) (by decide)),trivial⟩
     ·
      extract_lets -merge -useContext +onlyGivenNames -underBinder k3
      have h_k3:∀(n11:Int) (n12:Int) (n13:Int) (n14:Int) (b15:Bool) (s16:ByteArray) (C_k3_n11:Cu l1 n11) (I_k3_n13:I64 n13) (I_k3_n14:I64 n14) (S_k3_s16:s16.size≤1000),PQ zr36 zo36 (fun o=>Cu l1 (asI (outC o 0 1))∧I64 (asI (resC o 0 0))∧I64 (asI (resC o 0 1))∧I64 (asI (resC o 0 2))∧I64 (asI (resC o 0 3))∧I64 (asI (resC o 0 4))∧I64 (asI (resC o 0 5))∧I64 (asI (resC o 0 6))∧EL [.i .i64,.s] 60 (asL (resC o 0 8))∧(asS (resC o 0 9)).size≤1000∧True) (k3 n11 n12 n13 n14 b15 s16):=by
       intro n11 n12 n13 n14 b15 s16 C_k3_n11 I_k3_n13 I_k3_n14 S_k3_s16
       dsimp -zeta only [k3]
       extract_lets -merge -useContext +onlyGivenNames -underBinder y18
       extract_lets -merge -useContext +onlyGivenNames -underBinder y19
       exact ⟨rfl,C_k3_n11,(show I64 y6 from (i64_w64 _)),(show I64 y18 from (show I64 (asI (resC y2 0 0)) from (i64_b b_y2))),(show I64 y19 from (show I64 (asI (resC y3 0 0)) from (i64_b b_y3))),I_k1_n7,I_k3_n13,I_k3_n14,(show I64 (0) by unfold I64;omega),(el_mono (by decide) (el_nil _)),(Nat.le_trans S_k3_s16 (by decide)),trivial⟩
      refine pq_ite (fun g4=>?_) (fun g4=>?_)
      ·
       extract_lets -merge -useContext +onlyGivenNames -underBinder y20
       obtain ⟨a_y20,c_y20,-⟩:PQ zr17 zo17 _ y20:=d17 C_k2_n9 _ _
       clear_value y20
       refine pq_chk a_y20 ?_
       extract_lets -merge -useContext +onlyGivenNames -underBinder y21
       exact h_k3 (asI (outC y20 0 1)) (asI (outC y20 0 2)) y21 (0:Int) (!(asB (resC y20 0 0))) (⟨#[]⟩:ByteArray) c_y20 (show I64 y21 from (show I64 (asI (resC y5 0 0)) from (i64_b b_y5))) (show I64 (0) by unfold I64;omega) (Nat.le_trans (show (⟨#[]⟩:ByteArray).size≤0 from Nat.le_of_eq rfl) (by decide))
      ·
       extract_lets -merge -useContext +onlyGivenNames -underBinder y22
       obtain ⟨a_y22,c_y22,b_y22,-⟩:PQ zr29 zo29 _ y22:=d29 C_k2_n9 _ _
       clear_value y22
       refine pq_chk a_y22 ?_
       extract_lets -merge -useContext +onlyGivenNames -underBinder y23
       obtain ⟨a_y23,c_y23,p_y23,-⟩:PQ zr28 zo28 _ y23:=d28 c_y22 _ _ (by decide)
       clear_value y23
       refine pq_chk a_y23 ?_
       extract_lets -merge -useContext +onlyGivenNames -underBinder y24
       exact h_k3 (asI (outC y23 0 1)) (asI (outC y23 0 2)) (w64 ((1:Int)+y24)) (w64 ((1:Int)+(asI (resC y22 0 0)))) false (asS (resC y23 0 0)) c_y23 (i64_w64 _) (i64_w64 _) (Nat.le_trans (show (asS (resC y23 0 0)).size≤1000 from p_y23) (by decide))
  extract_lets -merge -useContext +onlyGivenNames -underBinder y25
  refine pq_ite (fun g5=>?_) (fun g5=>?_)
  ·
   extract_lets -merge -useContext +onlyGivenNames -underBinder y26
   extract_lets -merge -useContext +onlyGivenNames -underBinder y27
   extract_lets -merge -useContext +onlyGivenNames -underBinder y28
   obtain ⟨a_y28,c_y28,b_y28,-⟩:PQ zr29 zo29 _ y28:=d29 c_y5 _ _
   clear_value y28
   refine pq_chk a_y28 ?_
   exact h_k2 (w64 ((1:Int)+(asI (resC y28 0 0)))) (asI (outC y28 0 1)) (asI (outC y28 0 2)) (i64_w64 _) c_y28
  ·
   extract_lets -merge -useContext +onlyGivenNames -underBinder y29
   extract_lets -merge -useContext +onlyGivenNames -underBinder y30
   exact h_k2 (0:Int) y29 y30 (show I64 (0) by unfold I64;omega) c_y5
 extract_lets -merge -useContext +onlyGivenNames -underBinder y31
 refine pq_ite (fun g6=>?_) (fun g6=>?_)
 ·
  exact h_k1 (1:Int) (show I64 (1) by unfold I64;omega)
 ·
  exact h_k1 y31 (show I64 y31 from (i64_w64 _))
end Go.Den.L4

/- What cores that are played with fulfil: votes. -/
namespace Go.Den.L4
open Go
/-- What is asked of a core between its turns. -/
structure CB (n7 n8:Int) (l9 l11 l12 l13:List (List D)):Prop where
 b:0≤n7∧n7≤200000
 t:I64 n8
 e:EL shEntry 100 l9
 y:EL shInt 100 l11
 x:EL shInt 100 l12
 m:EL shInt 100 l13
abbrev cbO (o:Rs):Prop:=CB (asI (resC o 0 6)) (asI (resC o 0 7)) (asL (resC o 0 8)) (asL (resC o 0 10)) (asL (resC o 0 11)) (asL (resC o 0 12))
theorem cb0 {n7 n8:Int} {l9:List (List D)} (b:0≤n7∧n7≤200000) (t:I64 n8) (e:EL shEntry 100 l9):CB n7 n8 l9 [] [] []:=⟨b,t,e,el_mono (by decide) (el_nil _),el_mono (by decide) (el_nil _),el_mono (by decide) (el_nil _)⟩
theorem ints_snoc {l:List (List D)} {n:Nat} {x:Int} (h:EL shInt n l) (hx:I64 x):EL shInt (n+1) (l++[[.i .i64 x]]):=el_app h (el_one ⟨_,_,rfl,⟨_,rfl,wfI hx⟩,rfl⟩)
theorem int_chk {l:List (List D)} (hl:l.length≤1000) (x:Int):((flatR 1 [[D.i .i64 x]])&&decide (l.length + [[D.i .i64 x]].length≤lim))=true:=by
 have e:decide (l.length + [[D.i .i64 x]].length≤lim)=true:=decide_eq_true (by simp only [List.length_singleton];unfold lim;omega)
 rw [e];rfl
theorem down_spec (n1 n2 n3 n4 n5 n6 n7 n8:Int) (l9:List (List D)) (n10:Int) (l11 l12 l13:List (List D)) (T:Int):∃v,t85 n1 n2 n3 n4 n5 n6 n7 n8 l9 n10 l11 l12 l13 T=some ([.agg [.i .i64 n1,.i .i64 n2,.i .i64 T,.i .i64 v,.i .i64 1,.i .i64 (-1),.i .i64 n7,.i .i64 n8,.l l9,.i .i64 n10,.l [],.l [],.l []]],[]):=by
 unfold t85
 by_cases g:(T != n3)=true
 ·exact ⟨_,by rw [if_pos g]⟩
 ·exact ⟨_,by rw [if_neg g]⟩
theorem n86 (n1 n2 n3 n4 n5 n6 n7 n8:Int) (l9:List (List D)) (n10:Int) (l11 l12 l13:List (List D)) (m1 m2 m3 m4 m5 m6 m7:Int) (m8:Bool) (m9:List (List D)) (m10:ByteArray) (c:CB n7 n8 l9 l11 l12 l13) :
  PQ zr86 zo86 cbO (t86 n1 n2 n3 n4 n5 n6 n7 n8 l9 n10 l11 l12 l13 m1 m2 m3 m4 m5 m6 m7 m8 m9 m10):=by
 have hl:=c.e.1
 have hb:=c.b
 have ew1:∀x,okR zr23 zo23 (some ([.one (.i .i64 x)],[]))=true:=fun _=>rfl
 have ew2:∀x,okR zr37 zo37 (some ([.one (.i .i64 x)],[]))=true:=fun _=>rfl
 have ei:∀x,asI (resC (some ([.one (.i .i64 x)],[])) 0 0)=x:=fun _=>rfl
 unfold t86 ta86
 simp only [last_spec,w64_in (n7+(l9.length:Int)) (by omega),ew1,ei,chk_true,term_spec n1 n2 n3 n4 n5 n6 n7 n8 l9 n10 l11 l12 l13 c.e.2 hl hb (n7+(l9.length:Int)) ⟨by omega,Int.le_refl _⟩,ew2]
 exact pq_ite (fun _=>⟨rfl,c⟩) (fun _=>⟨rfl,c⟩)
/-- What a right core fulfils, in plain words. -/
structure CO (n1 n2 n3 n7:Int) (l9:List (List D)) (n10:Int):Prop where
 p:1≤n2∧n2≤5
 i:0≤n1∧n1 < n2
 t:0≤n3∧n3≤100000
 q:0≤n7∧n7+(l9.length:Int)≤100000
 c:n7≤n10∧n10≤n7+(l9.length:Int)
 l:l9.length≤60
 e:∀r∈l9,typL shEntry r
 z:∀r∈l9,szdL shEntry r
theorem runB_sz (l:List (List D)) (t:Int):∀(k i:Nat) (p:Int),runB l t k i p=true→∀j,i≤j→j < i+k→((asS (nthD (l.getD j []) 1)).size:Int)≤1600
 | 0,_,_,_,_,h1,h2=>by omega
 | k+1,i,p,h,j,h1,h2=>by
  simp only [runB,Bool.and_eq_true,decide_eq_true_eq] at h
  by_cases e:j=i
  ·subst e;exact h.1.2.2
  ·exact runB_sz l t k (i+1) _ h.2 j (by omega) (by omega)
theorem core_CO {n1 n2 n3 n4 n5 n6 n7 n8:Int} {l9:List (List D)} {n10:Int} {l11 l12 l13:List (List D)} (he:∀r∈l9,typL shEntry r) (h:coreB n1 n2 n3 n4 n5 n6 n7 n8 l9 n10 l11 l12 l13=true):CO n1 n2 n3 n7 l9 n10∧placeB n7 n8=true∧roleB n1 n2 n3 n4 n5 n6 n7 l9 l11 l12 l13=true:=by
 obtain ⟨a1,a2,a3,a4,a5,a6,a7,a8,a9,a10,a11,a12,a13,a14⟩:=coreB_more h
 refine ⟨⟨⟨a1,a2⟩,⟨a3,by omega⟩,⟨a5,a6⟩,⟨a10,a9⟩,⟨a11,a12⟩,by omega,he,all_getD fun j hj=>?_⟩,a8,a14⟩
 rw [coreB_eq] at h
 simp only [Bool.and_eq_true] at h
 have h2:=h.2.1
 unfold keptB at h2
 rw [Bool.and_eq_true] at h2
 have:=runB_sz _ _ _ _ _ h2.2 j (Nat.zero_le _) (by omega)
 obtain ⟨a,b,e,_⟩:=Entry_row (he _ (mem_getD hj))
 rw [e] at this ⊢
 refine ⟨trivial,?_,trivial⟩
 have:(b.size:Int)≤1600:=this
 show b.size≤1048576
 omega
theorem ld_loop {n49 n50 n51 n52 n53 n54 n55 n56 n57 n60 n62 n63 n64 n65 n67 n68 n69 n70 n71 n72 n73 n74 n75 n76 n77:Int} {l78 l82 l83 l84:List (List D)} {q1:Int→Bool→List (List D)→List (List D)→Rs} {n61 n66:Int} {l81:List (List D)} {zr:List DV} {zo:List (List D)} {P:Rs→Prop} (N:Nat) (hN:n61=(N:Int)) (h5:N≤5) (hb:0≤n66∧n66+(l81.length:Int)≤200000)
  (hq:∀n b A B,A.length=N→B.length=N→EL shInt 100 A→EL shInt 100 B→(∀p,p < N→xI A p=n66+(l81.length:Int)+1)→PQ zr zo P (q1 n b A B)) :
  ∀(k i m:Nat) (v:SV) (A B:List (List D)),i+k=N→k < m→A.length=i→B.length=i→EL shInt i A→EL shInt i B→(∀p,p < i→xI A p=n66+(l81.length:Int)+1)→PQ zr zo P (la83o0 t23 t32 t33 n49 n50 n51 n52 n53 n54 n55 n56 n57 n60 n61 n62 n63 n64 n65 n66 n67 n68 n69 n70 n71 n72 n73 n74 n75 n76 n77 l78 l81 l82 l83 l84 q1 m (i:Int) v A B):=by
 intro k
 induction k with
 | zero =>
  intro i m v A B e hm ha hB tA tB hx
  obtain ⟨m,rfl⟩:∃m',m=m' + 1:=⟨m - 1,by omega⟩
  have c:decide ((i:Int) < n61)=false:=decide_eq_false (by omega)
  simp only [la83o0,c,Bool.false_eq_true,if_false]
  have:i=N:=by omega
  subst this
  exact hq _ _ _ _ ha hB (el_mono (by omega) tA) (el_mono (by omega) tB) hx
 | succ k ih =>
  intro i m v A B e hm ha hB tA tB hx
  obtain ⟨m,rfl⟩:∃m',m=m' + 1:=⟨m - 1,by omega⟩
  have c:decide ((i:Int) < n61)=true:=decide_eq_true (by omega)
  have ew1:∀x,okR zr23 zo23 (some ([.one (.i .i64 x)],[]))=true:=fun _=>rfl
  have ei:∀x,asI (resC (some ([.one (.i .i64 x)],[])) 0 0)=x:=fun _=>rfl
  simp only [la83o0,c,if_true,last_spec,w64_in (n66+(l81.length:Int)) (by omega),ew1,ei,chk_true,w64_in (n66+(l81.length:Int)+1) (by omega),int_chk (show A.length≤1000 by omega),int_chk (show B.length≤1000 by omega)]
  rw [w64_succ i (by omega)]
  have hx':∀p,p < i+1→xI (A++[[.i .i64 (n66+(l81.length:Int)+1)]]) p=n66+(l81.length:Int)+1:=fun p hp=>by
   unfold xI
   by_cases e1:p < A.length
   ·have:=hx p (by omega)
    unfold xI at this
    rw [List.getD_eq_getElem?_getD,List.getElem?_append_left e1,←List.getD_eq_getElem?_getD]
    exact this
   ·have:p=A.length:=by omega
    subst this
    rw [List.getD_eq_getElem?_getD,List.getElem?_append_right (Nat.le_refl _),Nat.sub_self]
    rfl
  exact ih (i+1) m _ _ _ (by omega) (by omega) (by simp;omega) (by simp;omega) (ints_snoc tA (by unfold I64;omega)) (ints_snoc tB (by unfold I64;omega)) hx'
theorem n83 (n1 n2 n3 n4 n5 n6 n7 n8:Int) (l9:List (List D)) (n10:Int) (l11 l12 l13:List (List D)) (o:CO n1 n2 n3 n7 l9 n10) (h8:I64 n8):PQ zr83 zo83 cbO (t83 n1 n2 n3 n4 n5 n6 n7 n8 l9 n10 l11 l12 l13):=by
 obtain ⟨hp,hi,ht,hq,hc,hl,he,hz⟩:=o
 unfold t83 ta83
 refine ld_loop n2.toNat (by omega) (by omega) (by omega) (fun n b A B ha hB tA tB hx=>?_) n2.toNat 0 KK _ [] [] (by omega) (by rw [KK_eq];omega) rfl rfl (el_nil _) (el_nil _) (fun p hp=>by omega)
 have L:Led n1 n2 n3 n7 n10 l9 A B ⟨#[]⟩ n1.toNat:=⟨by omega,by omega,by omega,by omega,by omega,tA.2,tB.2,he,hz,hl,by omega,hc,ht,by decide⟩
 have hnx:∀p,p < A.length→xI A p≤n7+(l9.length:Int)+1:=fun p hp=>Int.le_of_eq (hx p (by omega))
 generalize hbb:(decide ((l9.length:Int) < 60)&&decide (n7+(l9.length:Int) < 100000))=bb
 have F:=led_fit L bb hnx
 have kP:=put_spec n1 n2 n3 n4 3 n1 n7 n8 l9 n10 [] A B ⟨#[]⟩ n1.toNat L bb hbb.symm
 obtain ⟨g1,g2,g3,g4⟩:=putL_ok L bb
 generalize putL bb l9 n3 ⟨#[]⟩=G at *
 obtain ⟨u1,u2,u3⟩:=stR_int tA.2 n1.toNat (n7+(G.length:Int)+1) (by omega)
 obtain ⟨v1,v2,v3⟩:=stR_int tB.2 n1.toNat (n7+(G.length:Int)) (by omega)
 generalize com n2 n3 n7 n8 G n10 (stR B n1.toNat 0 [.i .i64 (n7+(G.length:Int))]) (n7+(G.length:Int) - n10).toNat=K at kP
 have kA:=all_spec n1 n2 n3 n4 3 n1 n7 n8 G K [] (stR A n1.toNat 0 [.i .i64 (n7+(G.length:Int)+1)]) (stR B n1.toNat 0 [.i .i64 (n7+(G.length:Int))]) F n2.toNat (by omega) (by rw [u1];omega)
 have w1:∀a b c,okR zr32 zo32 (some ([.agg [.i .i64 n1,.i .i64 n2,.i .i64 n3,.i .i64 n4,.i .i64 3,.i .i64 n1,.i .i64 n7,.i .i64 n8,.l G,.i .i64 K,.l a,.l b,.l c]],[]))=true:=fun _ _ _=>rfl
 have w2:∀x,okR zr33 zo33 (some ([.one (.l x)],[]))=true:=fun _=>rfl
 rw [kP]
 simp only [w1,chk_true,resC,nthR,cellsDV,nthD,asI,asL]
 rw [kA]
 simp only [w2,chk_true]
 exact ⟨rfl,⟨show 0≤n7∧n7≤200000 by omega,h8,⟨show G.length≤100 by omega,g1⟩,el_mono (by decide) (el_nil _),⟨by show (stR A _ _ _).length≤100;rw [u1];exact tA.1,u2⟩,⟨by show (stR B _ _ _).length≤100;rw [v1];exact tB.1,v2⟩⟩⟩
theorem vd_loop {n79 n80 n81 n82 n83 n84 n85 n86 n87 n88 n89 n90 n91 n92 n93 n94:Int} {b95:Bool} {l96:List (List D)} {s97:ByteArray} {b99:Bool} {n102 n104 n105 n106 n107 n108 n109 n110 n111 n112 n113 n114 n115 n116 n117:Int} {b118:Bool} {l119:List (List D)} {s120:ByteArray} {n121 n122 n123 n124 n125 n126 n127 n128 n129:Int} {l131 l133 l134:List (List D)} {q1:Int→Bool→SV→List (List D)→Rs} {n103:Int} {l132:List (List D)} {zr:List DV} {zo:List (List D)} {P:Rs→Prop} (N:Nat) (hN:n103=(N:Int)) (h5:N≤5) (hin:EL shInt 100 l132)
  (hq:∀n b v A,A.length≤N→EL shInt 100 A→PQ zr zo P (q1 n b v A)) :
  ∀(k i m:Nat) (v v':SV) (A:List (List D)),i+k=N→k < m→A.length≤i→EL shInt i A→PQ zr zo P (la87o1 t24 t83 n79 n80 n81 n82 n83 n84 n85 n86 n87 n88 n89 n90 n91 n92 n93 n94 b95 l96 s97 b99 n102 n103 n104 n105 n106 n107 n108 n109 n110 n111 n112 n113 n114 n115 n116 n117 b118 l119 s120 n121 n122 n123 n124 n125 n126 n127 n128 n129 l131 l132 l133 l134 q1 m (i:Int) v v' A):=by
 intro k
 induction k with
 | zero =>
  intro i m v v' A e hm ha tA
  obtain ⟨m,rfl⟩:∃m',m=m' + 1:=⟨m - 1,by omega⟩
  have c:decide ((i:Int) < n103)=false:=decide_eq_false (by omega)
  simp only [la87o1,c,Bool.false_eq_true,if_false]
  exact hq _ _ _ _ (by omega) (el_mono (by omega) tA)
 | succ k ih =>
  intro i m v v' A e hm ha tA
  obtain ⟨m,rfl⟩:∃m',m=m' + 1:=⟨m - 1,by omega⟩
  have c:decide ((i:Int) < n103)=true:=decide_eq_true (by omega)
  have ew1:∀x,okR zr24 zo24 (some ([.one (.b x)],[]))=true:=fun _=>rfl
  simp only [la87o1,c,if_true,in_spec l132 (Nat.le_trans hin.1 (by decide)) hin.2,ew1,Bool.true_or,chk_true]
  rw [w64_succ i (by omega)]
  refine pq_ite (fun _=>pq_chk (int_chk (by omega) _) ?_) (fun _=>?_)
  ·exact ih (i+1) m _ _ _ (by omega) (by omega) (by simp;omega) (ints_snoc tA (by unfold I64;omega))
  ·exact ih (i+1) m _ _ _ (by omega) (by omega) (by omega) (el_mono (by omega) tA)
theorem n87 (n1 n2 n3 n4 n5 n6 n7 n8:Int) (l9:List (List D)) (n10:Int) (l11 l12 l13:List (List D)) (m1 m2 m3 m4 m5 m6 m7:Int) (m8:Bool) (m9:List (List D)) (m10:ByteArray) (c:CB n7 n8 l9 l11 l12 l13) (o:CO n1 n2 n3 n7 l9 n10) :
  PQ zr87 zo87 cbO (t87 n1 n2 n3 n4 n5 n6 n7 n8 l9 n10 l11 l12 l13 m1 m2 m3 m4 m5 m6 m7 m8 m9 m10):=by
 have hp:=o.p
 unfold t87 ta87
 refine pq_ite (fun _=>⟨rfl,c⟩) (fun _=>?_)
 refine vd_loop n2.toNat (by omega) (by omega) c.y (fun n b v A ha tA=>?_) n2.toNat 0 KK _ _ [] (by omega) (by rw [KK_eq];omega) (Nat.zero_le _) (el_nil _)
 refine pq_ite (fun _=>?_) (fun _=>⟨rfl,⟨c.b,c.t,c.e,tA,c.x,c.m⟩⟩)
 obtain ⟨a,p⟩:=n83 n1 n2 n3 n4 n5 n6 n7 n8 l9 n10 A l12 l13 o c.t
 exact pq_chk a ⟨rfl,p⟩
end Go.Den.L4

/- What cores that are played with fulfil: answers, entries, snapshots. -/
namespace Go.Den.L4
open Go
/-- What a leader's lists fulfil. -/
def R3 (n2 n5 n7:Int) (l9 l12 l13:List (List D)):Prop:=n5=3→(l12.length:Int)=n2∧(l13.length:Int)=n2∧∀p,p < l12.length→xI l12 p≤n7+(l9.length:Int)+1∧0≤xI l13 p∧xI l13 p < xI l12 p
theorem int_isF {l:List (List D)} (h:∀r∈l,typL shInt r) {p:Nat} (hp:p < l.length):(decide (1≤(l.getD p []).length)&&isF z3 0 (l.getD p []))=true:=by
 obtain ⟨a,e⟩:=Int_row (h _ (mem_getD hp))
 rw [e];rfl
theorem n89 (n1 n2 n3 n4 n5 n6 n7 n8:Int) (l9:List (List D)) (n10:Int) (l11 l12 l13:List (List D)) (m1 m2 m3 m4 m5 m6 m7:Int) (m8:Bool) (m9:List (List D)) (m10:ByteArray) (c:CB n7 n8 l9 l11 l12 l13) (o:CO n1 n2 n3 n7 l9 n10) (h3:R3 n2 n5 n7 l9 l12 l13) (hf:0≤m2∧m2 < n2) (hix:0≤m5∧m5≤100000) :
  PQ zr89 zo89 cbO (t89 n1 n2 n3 n4 n5 n6 n7 n8 l9 n10 l11 l12 l13 m1 m2 m3 m4 m5 m6 m7 m8 m9 m10):=by
 obtain ⟨hp,hi,ht,hq,hc,hl,he,hz⟩:=o
 have ew1:∀x,okR zr23 zo23 (some ([.one (.i .i64 x)],[]))=true:=fun _=>rfl
 have ei:∀x,asI (resC (some ([.one (.i .i64 x)],[])) 0 0)=x:=fun _=>rfl
 unfold t89 ta89
 refine pq_ite (fun _=>⟨rfl,c⟩) (fun g=>?_)
 have g3:n5=3:=by simpa using g
 subst g3
 obtain ⟨b1,b2,b3⟩:=h3 rfl
 obtain ⟨p,rfl⟩:∃p:Nat,m2=(p:Int):=⟨m2.toNat,by omega⟩
 have hp12:p < l12.length:=by omega
 have hp13:p < l13.length:=by omega
 have e12:(decide (0≤(p:Int))&&decide ((p:Int) < (l12.length:Int)))=true:=by rw [decide_eq_true (by omega),decide_eq_true (by omega)];rfl
 have e13:(decide (0≤(p:Int))&&decide ((p:Int) < (l13.length:Int)))=true:=by rw [decide_eq_true (by omega),decide_eq_true (by omega)];rfl
 have d12:decide (1≤1∧p < l12.length)=true:=decide_eq_true ⟨Nat.le_refl _,hp12⟩
 have d13:decide (1≤1∧p < l13.length)=true:=decide_eq_true ⟨Nat.le_refl _,hp13⟩
 have f12:=int_isF c.x.2 hp12
 have f13:=int_isF c.m.2 hp13
 have hln:w64 (n7+(l9.length:Int))=n7+(l9.length:Int):=w64_in _ (by omega)
 have bp:=b3 p hp12
 refine pq_ite (fun _=>?_) (fun _=>?_)
 ·extract_lets +onlyGivenNames -underBinder y1 k1
  have key:∀i:Int,0≤i→i≤n7+(l9.length:Int)→PQ zr89 zo89 cbO (k1 i):=fun i h0 h1=>by
   simp only [k1,Int.toNat_natCast,e12,e13,d12,d13,f13,chk_true]
   refine pq_ite (fun _=>⟨rfl,c⟩) (fun _=>?_)
   rw [w64_in (i+1) (by omega)]
   obtain ⟨u1,u2,u3⟩:=stR_int c.x.2 p (i+1) (by omega)
   obtain ⟨v1,v2,v3⟩:=stR_int c.m.2 p i (by omega)
   have kC:=count_spec n1 n2 n3 n4 3 n6 n7 n8 l9 n10 l11 (stR l12 p 0 [D.i .i64 (i+1)]) (stR l13 p 0 [D.i .i64 i]) he (by omega) (by omega) hc.1 hc.2 v2 (by rw [v1];exact b2) (by omega)
   have hcom:=com_in n2 n3 n7 n8 l9 n10 (stR l13 p 0 [D.i .i64 i]) (n7+(l9.length:Int) - n10).toNat
   generalize com n2 n3 n7 n8 l9 n10 (stR l13 p 0 [D.i .i64 i]) (n7+(l9.length:Int) - n10).toNat=K at kC hcom
   have w1:∀a b c,okR zr60 zo60 (some ([.agg [.i .i64 n1,.i .i64 n2,.i .i64 n3,.i .i64 n4,.i .i64 3,.i .i64 n6,.i .i64 n7,.i .i64 n8,.l l9,.i .i64 K,.l a,.l b,.l c]],[]))=true:=fun _ _ _=>rfl
   have eX:(decide (0≤(p:Int))&&decide ((p:Int) < ((stR l12 p 0 [D.i .i64 (i+1)]).length:Int)))=true:=by rw [u1];exact e12
   have fX:=int_isF u2 (p:=p) (by rw [u1];exact hp12)
   have F:Fit n7 l9 (stR l12 p 0 [D.i .i64 (i+1)]):=⟨he,by omega,by omega,u2,fun j hj=>by
    rw [u3 j (by omega)]
    have:=b3 j (by omega)
    split<;>omega,by omega⟩
   have kS:=send_spec n1 n2 n3 n4 3 n6 n7 n8 l9 K l11 (stR l12 p 0 [D.i .i64 (i+1)]) (stR l13 p 0 [D.i .i64 i]) F p (by omega)
   have w2:okR zr61 zo61 (some ([.agg (msgD n1 n3 n7 n8 l9 K (stR l12 p 0 [D.i .i64 (i+1)]) p)],[]))=true:=by
    unfold msgD
    split<;>rfl
   have cb:CB n7 n8 l9 l11 (stR l12 p 0 [D.i .i64 (i+1)]) (stR l13 p 0 [D.i .i64 i]):=⟨c.b,c.t,c.e,c.y,⟨by rw [u1];exact c.x.1,u2⟩,⟨by rw [v1];exact c.m.1,v2⟩⟩
   simp only [kC,w1,chk_true]
   simp only [resC,nthR,cellsDV,nthD,asI,asL,eX,last_spec,hln,ew1,chk_true]
   refine pq_chk fX (pq_ite (fun _=>?_) (fun _=>⟨rfl,cb⟩))
   rw [kS]
   exact pq_chk w2 ⟨rfl,cb⟩
  refine pq_chk (by simp only [y1,last_spec];exact ew1 _) (pq_ite (fun _=>?_) (fun g2=>?_))
  ·simp only [y1,last_spec,ew1,ei,hln,chk_true]
   exact key _ (by omega) (Int.le_refl _)
  ·have:¬ m5 > asI (resC y1 0 0):=by simpa using g2
   simp only [y1,last_spec,ei,hln] at this
   exact key _ hix.1 (by omega)
 ·have fin:∀x:Int,I64 x→x < xI l12 p→PQ zr89 zo89 cbO (chk (okR zr61 zo61 (t61 n1 n2 n3 n4 3 n6 n7 n8 l9 n10 l11 (stR l12 p 0 [D.i .i64 x]) l13 (p:Int)))
    (some ([.agg [.i .i64 n1,.i .i64 n2,.i .i64 n3,.i .i64 n4,.i .i64 3,.i .i64 n6,.i .i64 n7,.i .i64 n8,.l l9,.i .i64 n10,.l l11,.l (stR l12 p 0 [D.i .i64 x]),.l l13],.one (.l ([[.i .i64 (asI (resC (t61 n1 n2 n3 n4 3 n6 n7 n8 l9 n10 l11 (stR l12 p 0 [D.i .i64 x]) l13 (p:Int)) 0 0)),.i .i64 (asI (resC (t61 n1 n2 n3 n4 3 n6 n7 n8 l9 n10 l11 (stR l12 p 0 [D.i .i64 x]) l13 (p:Int)) 0 1)),.i .i64 (asI (resC (t61 n1 n2 n3 n4 3 n6 n7 n8 l9 n10 l11 (stR l12 p 0 [D.i .i64 x]) l13 (p:Int)) 0 2)),.i .i64 (asI (resC (t61 n1 n2 n3 n4 3 n6 n7 n8 l9 n10 l11 (stR l12 p 0 [D.i .i64 x]) l13 (p:Int)) 0 3)),.i .i64 (asI (resC (t61 n1 n2 n3 n4 3 n6 n7 n8 l9 n10 l11 (stR l12 p 0 [D.i .i64 x]) l13 (p:Int)) 0 4)),.i .i64 (asI (resC (t61 n1 n2 n3 n4 3 n6 n7 n8 l9 n10 l11 (stR l12 p 0 [D.i .i64 x]) l13 (p:Int)) 0 5)),.i .i64 (asI (resC (t61 n1 n2 n3 n4 3 n6 n7 n8 l9 n10 l11 (stR l12 p 0 [D.i .i64 x]) l13 (p:Int)) 0 6)),.b (asB (resC (t61 n1 n2 n3 n4 3 n6 n7 n8 l9 n10 l11 (stR l12 p 0 [D.i .i64 x]) l13 (p:Int)) 0 7)),.l (asL (resC (t61 n1 n2 n3 n4 3 n6 n7 n8 l9 n10 l11 (stR l12 p 0 [D.i .i64 x]) l13 (p:Int)) 0 8)),.s (asS (resC (t61 n1 n2 n3 n4 3 n6 n7 n8 l9 n10 l11 (stR l12 p 0 [D.i .i64 x]) l13 (p:Int)) 0 9))]]))],[]))):=fun x hx h1=>by
   obtain ⟨u1,u2,u3⟩:=stR_int c.x.2 p x hx
   have F:Fit n7 l9 (stR l12 p 0 [D.i .i64 x]):=⟨he,by omega,by omega,u2,fun j hj=>by
    rw [u3 j (by omega)]
    have:=b3 j (by omega)
    split<;>omega,by omega⟩
   have kS:=send_spec n1 n2 n3 n4 3 n6 n7 n8 l9 n10 l11 (stR l12 p 0 [D.i .i64 x]) l13 F p (by omega)
   have w2:okR zr61 zo61 (some ([.agg (msgD n1 n3 n7 n8 l9 n10 (stR l12 p 0 [D.i .i64 x]) p)],[]))=true:=by
    unfold msgD
    split<;>rfl
   rw [kS]
   exact pq_chk w2 ⟨rfl,⟨c.b,c.t,c.e,c.y,⟨by show (stR l12 p 0 [D.i .i64 x]).length≤100;rw [u1];exact c.x.1,u2⟩,c.m⟩⟩
  have last3:∀x:Int,I64 x→PQ zr89 zo89 cbO (if decide (x ≥ asI (nthD (l12.getD p []) 0))=true then some ([.agg [.i .i64 n1,.i .i64 n2,.i .i64 n3,.i .i64 n4,.i .i64 3,.i .i64 n6,.i .i64 n7,.i .i64 n8,.l l9,.i .i64 n10,.l l11,.l l12,.l l13],.one (.l ([]:List (List D)))],[]) else (chk (okR zr61 zo61 (t61 n1 n2 n3 n4 3 n6 n7 n8 l9 n10 l11 (stR l12 p 0 [D.i .i64 x]) l13 (p:Int)))
    (some ([.agg [.i .i64 n1,.i .i64 n2,.i .i64 n3,.i .i64 n4,.i .i64 3,.i .i64 n6,.i .i64 n7,.i .i64 n8,.l l9,.i .i64 n10,.l l11,.l (stR l12 p 0 [D.i .i64 x]),.l l13],.one (.l ([[.i .i64 (asI (resC (t61 n1 n2 n3 n4 3 n6 n7 n8 l9 n10 l11 (stR l12 p 0 [D.i .i64 x]) l13 (p:Int)) 0 0)),.i .i64 (asI (resC (t61 n1 n2 n3 n4 3 n6 n7 n8 l9 n10 l11 (stR l12 p 0 [D.i .i64 x]) l13 (p:Int)) 0 1)),.i .i64 (asI (resC (t61 n1 n2 n3 n4 3 n6 n7 n8 l9 n10 l11 (stR l12 p 0 [D.i .i64 x]) l13 (p:Int)) 0 2)),.i .i64 (asI (resC (t61 n1 n2 n3 n4 3 n6 n7 n8 l9 n10 l11 (stR l12 p 0 [D.i .i64 x]) l13 (p:Int)) 0 3)),.i .i64 (asI (resC (t61 n1 n2 n3 n4 3 n6 n7 n8 l9 n10 l11 (stR l12 p 0 [D.i .i64 x]) l13 (p:Int)) 0 4)),.i .i64 (asI (resC (t61 n1 n2 n3 n4 3 n6 n7 n8 l9 n10 l11 (stR l12 p 0 [D.i .i64 x]) l13 (p:Int)) 0 5)),.i .i64 (asI (resC (t61 n1 n2 n3 n4 3 n6 n7 n8 l9 n10 l11 (stR l12 p 0 [D.i .i64 x]) l13 (p:Int)) 0 6)),.b (asB (resC (t61 n1 n2 n3 n4 3 n6 n7 n8 l9 n10 l11 (stR l12 p 0 [D.i .i64 x]) l13 (p:Int)) 0 7)),.l (asL (resC (t61 n1 n2 n3 n4 3 n6 n7 n8 l9 n10 l11 (stR l12 p 0 [D.i .i64 x]) l13 (p:Int)) 0 8)),.s (asS (resC (t61 n1 n2 n3 n4 3 n6 n7 n8 l9 n10 l11 (stR l12 p 0 [D.i .i64 x]) l13 (p:Int)) 0 9))]]))],[])))):=fun x hx=>by
   refine pq_ite (fun _=>⟨rfl,c⟩) (fun g=>fin x hx ?_)
   have:¬ x ≥ xI l12 p:=of_decide_eq_false g
   omega
  simp only [Int.toNat_natCast,e12,e13,d12,f12,f13,chk_true]
  refine pq_ite (fun _=>pq_ite (fun _=>last3 _ (i64_w64 _)) (fun _=>last3 _ (i64_w64 _))) (fun _=>pq_ite (fun _=>last3 _ (i64_w64 _)) (fun _=>last3 _ (i64_w64 _)))
end Go.Den.L4

/- What cores that are played with fulfil: entries and snapshots that come. -/
namespace Go.Den.L4
open Go
theorem app_down6 {n86 n87 n88 n89 n90 n91 n92 n93 n94 n95 n96 n97 n98 n99 n100 n101:Int} {b102:Bool} {l103:List (List D)} {s104:ByteArray} {l105:List (List D)} {n107 n108:Int} {b109 b110 b111 b112 b113 b114:Bool} {n116 n117 n118 n119 n120 n121 n123 n124 n125 n126 n127 n128 n129 n130 n131:Int} {b132:Bool} {l133:List (List D)} {s134:ByteArray} {n135 n136 n137 n138 n139 n140 n141 n142 n143:Int} {l145 l146 l147:List (List D)} {q1:Int→Bool→Rs} {n122:Int} {l144:List (List D)} {zr:List DV} {zo:List (List D)} {P:Rs→Prop} (hb:0≤n122∧n122≤200000) (hl:EL shEntry 100 l144) (hq:∀n b,PQ zr zo P (q1 n b)) :
  ∀(k m:Nat) (v:SV),k≤l144.length→k < m→PQ zr zo P (la88o6 t23 t37 t85 t105 n86 n87 n88 n89 n90 n91 n92 n93 n94 n95 n96 n97 n98 n99 n100 n101 b102 l103 s104 l105 n107 n108 b109 b110 b111 b112 b113 b114 n116 n117 n118 n119 n120 n121 n122 n123 n124 n125 n126 n127 n128 n129 n130 n131 b132 l133 s134 n135 n136 n137 n138 n139 n140 n141 n142 n143 l144 l145 l146 l147 q1 m (n122+(k:Int)) v):=by
 have hll:=hl.1
 intro k
 induction k with
 | zero =>
  intro m v hk hm
  obtain ⟨m,rfl⟩:∃m',m=m' + 1:=⟨m - 1,by omega⟩
  have c:decide (n122+((0:Nat):Int) > n122)=false:=decide_eq_false (by omega)
  simp only [la88o6,c,Bool.not_false,Bool.or_true,chk_true,Bool.false_and,Bool.false_eq_true,if_false]
  exact hq _ _
 | succ k ih =>
  intro m v hk hm
  obtain ⟨m,rfl⟩:∃m',m=m' + 1:=⟨m - 1,by omega⟩
  have ew:∀x,okR zr37 zo37 (some ([.one (.i .i64 x)],[]))=true:=fun _=>rfl
  have et:=fun a1 a2 a3 a4 a5 a6 a8 a10 a11 a12 a13=>term_spec a1 a2 a3 a4 a5 a6 n122 a8 l144 a10 a11 a12 a13 hl.2 hll hb (n122+((k+1:Nat):Int)) ⟨by omega,by omega⟩
  simp only [la88o6,et,ew,Bool.true_or,chk_true]
  rw [show w64 (n122+((k+1:Nat):Int) - 1)=n122+(k:Int) from by rw [w64_in _ (by omega)];omega]
  exact pq_ite (fun _=>ih m _ (by omega) (by omega)) (fun _=>hq _ _)
theorem app_dn6 {n86 n87 n88 n89 n90 n91 n92 n93 n94 n95 n96 n97 n98 n99 n100 n101:Int} {b102:Bool} {l103:List (List D)} {s104:ByteArray} {l105:List (List D)} {n107 n108:Int} {b109 b110 b111 b112 b113 b114:Bool} {n116 n117 n118 n119 n120 n121 n123 n124 n125 n126 n127 n128 n129 n130 n131:Int} {b132:Bool} {l133:List (List D)} {s134:ByteArray} {n135 n136 n137 n138 n139 n140 n141 n142 n143:Int} {l145 l146 l147:List (List D)} {q1:Int→Bool→Rs} {n122:Int} {l144:List (List D)} {zr:List DV} {zo:List (List D)} {P:Rs→Prop} (hb:0≤n122∧n122≤200000) (hl:EL shEntry 100 l144) (hq:∀n b,PQ zr zo P (q1 n b)) (n:Int) (v:SV) (h1:n122≤n) (h2:n≤n122+(l144.length:Int)):PQ zr zo P (la88o6 t23 t37 t85 t105 n86 n87 n88 n89 n90 n91 n92 n93 n94 n95 n96 n97 n98 n99 n100 n101 b102 l103 s104 l105 n107 n108 b109 b110 b111 b112 b113 b114 n116 n117 n118 n119 n120 n121 n122 n123 n124 n125 n126 n127 n128 n129 n130 n131 b132 l133 s134 n135 n136 n137 n138 n139 n140 n141 n142 n143 l144 l145 l146 l147 q1 KK n v):=by
 have hll:=hl.1
 obtain ⟨k,rfl⟩:∃k:Nat,n=n122+(k:Int):=⟨(n - n122).toNat,by omega⟩
 exact app_down6 hb hl hq k KK v (by omega) (by rw [KK_eq];omega)
theorem app_down100006 {n602 n603 n604 n605 n606 n607 n608 n609 n610 n611 n612 n613 n614 n615 n616 n617:Int} {b618:Bool} {l619:List (List D)} {s620:ByteArray} {l621:List (List D)} {n623:Int} {b624 b625 b626 b627 b628:Bool} {n630 n631 n632 n633 n634 n635 n637 n638 n639 n640 n641 n642 n643 n644 n645:Int} {b646:Bool} {l647:List (List D)} {s648:ByteArray} {n649 n650 n651 n652 n653 n654 n655 n656 n657:Int} {l659 l660 l661:List (List D)} {q1:Int→Bool→Rs} {n636:Int} {l658:List (List D)} {zr:List DV} {zo:List (List D)} {P:Rs→Prop} (hb:0≤n636∧n636≤200000) (hl:EL shEntry 100 l658) (hq:∀n b,PQ zr zo P (q1 n b)) :
  ∀(k m:Nat) (v:SV),k≤l658.length→k < m→PQ zr zo P (la88o100006 t23 t37 t85 t105 n602 n603 n604 n605 n606 n607 n608 n609 n610 n611 n612 n613 n614 n615 n616 n617 b618 l619 s620 l621 n623 b624 b625 b626 b627 b628 n630 n631 n632 n633 n634 n635 n636 n637 n638 n639 n640 n641 n642 n643 n644 n645 b646 l647 s648 n649 n650 n651 n652 n653 n654 n655 n656 n657 l658 l659 l660 l661 q1 m (n636+(k:Int)) v):=by
 have hll:=hl.1
 intro k
 induction k with
 | zero =>
  intro m v hk hm
  obtain ⟨m,rfl⟩:∃m',m=m' + 1:=⟨m - 1,by omega⟩
  have c:decide (n636+((0:Nat):Int) > n636)=false:=decide_eq_false (by omega)
  simp only [la88o100006,c,Bool.not_false,Bool.or_true,chk_true,Bool.false_and,Bool.false_eq_true,if_false]
  exact hq _ _
 | succ k ih =>
  intro m v hk hm
  obtain ⟨m,rfl⟩:∃m',m=m' + 1:=⟨m - 1,by omega⟩
  have ew:∀x,okR zr37 zo37 (some ([.one (.i .i64 x)],[]))=true:=fun _=>rfl
  have et:=fun a1 a2 a3 a4 a5 a6 a8 a10 a11 a12 a13=>term_spec a1 a2 a3 a4 a5 a6 n636 a8 l658 a10 a11 a12 a13 hl.2 hll hb (n636+((k+1:Nat):Int)) ⟨by omega,by omega⟩
  simp only [la88o100006,et,ew,Bool.true_or,chk_true]
  rw [show w64 (n636+((k+1:Nat):Int) - 1)=n636+(k:Int) from by rw [w64_in _ (by omega)];omega]
  exact pq_ite (fun _=>ih m _ (by omega) (by omega)) (fun _=>hq _ _)
theorem app_dn100006 {n602 n603 n604 n605 n606 n607 n608 n609 n610 n611 n612 n613 n614 n615 n616 n617:Int} {b618:Bool} {l619:List (List D)} {s620:ByteArray} {l621:List (List D)} {n623:Int} {b624 b625 b626 b627 b628:Bool} {n630 n631 n632 n633 n634 n635 n637 n638 n639 n640 n641 n642 n643 n644 n645:Int} {b646:Bool} {l647:List (List D)} {s648:ByteArray} {n649 n650 n651 n652 n653 n654 n655 n656 n657:Int} {l659 l660 l661:List (List D)} {q1:Int→Bool→Rs} {n636:Int} {l658:List (List D)} {zr:List DV} {zo:List (List D)} {P:Rs→Prop} (hb:0≤n636∧n636≤200000) (hl:EL shEntry 100 l658) (hq:∀n b,PQ zr zo P (q1 n b)) (n:Int) (v:SV) (h1:n636≤n) (h2:n≤n636+(l658.length:Int)):PQ zr zo P (la88o100006 t23 t37 t85 t105 n602 n603 n604 n605 n606 n607 n608 n609 n610 n611 n612 n613 n614 n615 n616 n617 b618 l619 s620 l621 n623 b624 b625 b626 b627 b628 n630 n631 n632 n633 n634 n635 n636 n637 n638 n639 n640 n641 n642 n643 n644 n645 b646 l647 s648 n649 n650 n651 n652 n653 n654 n655 n656 n657 l658 l659 l660 l661 q1 KK n v):=by
 have hll:=hl.1
 obtain ⟨k,rfl⟩:∃k:Nat,n=n636+(k:Int):=⟨(n - n636).toNat,by omega⟩
 exact app_down100006 hb hl hq k KK v (by omega) (by rw [KK_eq];omega)
theorem app_take8 {n277 n278 n279 n280 n281 n282 n283 n284 n285 n286 n287 n288 n289 n290 n291 n292:Int} {b293:Bool} {l294:List (List D)} {s295:ByteArray} {n298:Int} {b302 b303 b304 b305 b306 b307:Bool} {n313 n314 n315 n316 n317 n318 n320 n321 n322 n323 n324 n325 n326 n327 n328:Int} {b329:Bool} {l330:List (List D)} {s331:ByteArray} {n332 n333 n334 n335 n336 n337 n338 n339 n340:Int} {l342 l343 l344:List (List D)} {q1:Int→Int→Int→Bool→Bool→Bool→SV→SV→List (List D)→List (List D)→Rs} {q2:Int→Int→Int→Bool→Bool→Bool→Bool→Bool→List (List D)→Rs} {q3:Int→Int→SV→Bool→SV→SV→SV→SV→List (List D)→Rs} {n319 n297:Int} {l296:List (List D)} {zr:List DV} {zo:List (List D)} {P:Rs→Prop} (hb:0≤n319∧n319≤200000) (he:EL shEntry 1000 l296) (ha:n319≤n297∧n297≤300000)
  (h1:∀a b c d e f g h l,EL shEntry 100 l→PQ zr zo P (q1 a b c d e f g h l [])) (h2:∀a b c d e f g h l,EL shEntry 100 l→PQ zr zo P (q2 a b c d e f g h l)) (h3:∀a b c d e f g h l,EL shEntry 100 l→PQ zr zo P (q3 a b c d e f g h l)) :
  ∀(k i m:Nat) (n:Int) (v1 v2 v3 v4 v5 v6:SV) (l:List (List D)),i+k=l296.length→k < m→EL shEntry 100 l→PQ zr zo P (la88o8 t23 t37 t85 t105 n277 n278 n279 n280 n281 n282 n283 n284 n285 n286 n287 n288 n289 n290 n291 n292 b293 l294 s295 l296 n297 n298 b302 b303 b304 b305 b306 b307 n313 n314 n315 n316 n317 n318 n319 n320 n321 n322 n323 n324 n325 n326 n327 n328 b329 l330 s331 n332 n333 n334 n335 n336 n337 n338 n339 n340 l342 l343 l344 q1 q2 q3 m n (i:Int) v1 v2 v3 v4 v5 v6 l):=by
 have hel:=he.1
 intro k
 induction k with
 | zero =>
  intro i m n v1 v2 v3 v4 v5 v6 l e hm hl
  obtain ⟨m,rfl⟩:∃m',m=m' + 1:=⟨m - 1,by omega⟩
  have c:decide ((i:Int) < (l296.length:Int))=false:=decide_eq_false (by omega)
  simp only [la88o8,c,Bool.false_eq_true,if_false]
  exact h3 _ _ _ _ _ _ _ _ _ hl
 | succ k ih =>
  intro i m n v1 v2 v3 v4 v5 v6 l e hm hl
  obtain ⟨m,rfl⟩:∃m',m=m' + 1:=⟨m - 1,by omega⟩
  have hll:=hl.1
  have hi:i < l296.length:=by omega
  have ew1:∀x,okR zr23 zo23 (some ([.one (.i .i64 x)],[]))=true:=fun _=>rfl
  have ew:∀x,okR zr37 zo37 (some ([.one (.i .i64 x)],[]))=true:=fun _=>rfl
  have ei:∀x,asI (resC (some ([.one (.i .i64 x)],[])) 0 0)=x:=fun _=>rfl
  have hy:w64 (w64 (n297+1)+(i:Int))=n297+1+(i:Int):=by rw [w64_in (n297+1) (by omega),w64_in _ (by omega)]
  have hln:w64 (n319+(l.length:Int))=n319+(l.length:Int):=w64_in _ (by omega)
  have ez:=row_in he.2 _ entry_row i hi
  have er:((flatR 2 [[D.i .i64 (asI (nthD (l296.getD i []) 0)),.s (asS (nthD (l296.getD i []) 1))]])=true):=rfl
  have hnew:typL shEntry [D.i .i64 (asI (nthD (l296.getD i []) 0)),.s (asS (nthD (l296.getD i []) 1))]:=by
   rw [entry_eta (typ_getD he hi)];exact typ_getD he hi
  have tok:∀a1 a2 a3 a4 a5 a6 a8 a10 a11 a12 a13,(okR zr37 zo37 (t37 a1 a2 a3 a4 a5 a6 n319 a8 l a10 a11 a12 a13 (n297+1+(i:Int)))||!decide (n297+1+(i:Int)≤n319+(l.length:Int)))=true:=fun a1 a2 a3 a4 a5 a6 a8 a10 a11 a12 a13=>by
   by_cases g:n297+1+(i:Int)≤n319+(l.length:Int)
   ·rw [term_spec a1 a2 a3 a4 a5 a6 n319 a8 l a10 a11 a12 a13 hl.2 hll hb _ ⟨by omega,g⟩,ew,Bool.true_or]
   ·rw [decide_eq_false g,Bool.not_false,Bool.or_true]
  simp only [la88o8,nat_in hi,nat_pos,if_true,last_spec,ew1,ei,hln,hy,tok,Int.toNat_natCast,ez,Bool.and_self,Bool.true_or,chk_true]
  rw [w64_succ i (by omega)]
  refine pq_ite (fun _=>ih (i+1) m _ _ _ _ _ _ _ _ (by omega) (by omega) hl) (fun _=>pq_ite (fun _=>h1 _ _ _ _ _ _ _ _ _ hl) (fun _=>?_))
  have put:∀l':List (List D),EL shEntry 100 l'→∀u1 u2 u3 u4 u5 u6:SV,l'.length < 60→PQ zr zo P (chk (flatR 2 [[D.i .i64 (asI (nthD (l296.getD i []) 0)),.s (asS (nthD (l296.getD i []) 1))]]&&decide (l'.length + [[D.i .i64 (asI (nthD (l296.getD i []) 0)),.s (asS (nthD (l296.getD i []) 1))]].length≤lim)) (la88o8 t23 t37 t85 t105 n277 n278 n279 n280 n281 n282 n283 n284 n285 n286 n287 n288 n289 n290 n291 n292 b293 l294 s295 l296 n297 n298 b302 b303 b304 b305 b306 b307 n313 n314 n315 n316 n317 n318 n319 n320 n321 n322 n323 n324 n325 n326 n327 n328 b329 l330 s331 n332 n333 n334 n335 n336 n337 n338 n339 n340 l342 l343 l344 q1 q2 q3 m (n297+1+(i:Int)) ((i+1:Nat):Int) u1 u2 u3 u4 u5 u6 (l'++[[D.i .i64 (asI (nthD (l296.getD i []) 0)),.s (asS (nthD (l296.getD i []) 1))]]))):=fun l' hl' u1 u2 u3 u4 u5 u6 h6=>by
   refine pq_chk ?_ (ih (i+1) m _ _ _ _ _ _ _ _ (by omega) (by omega) ⟨by rw [List.length_append,List.length_singleton];omega,(el_app hl' (el_one hnew)).2⟩)
   rw [er,decide_eq_true (by simp only [List.length_singleton];unfold lim;omega)];rfl
  refine pq_ite (fun g=>?_) (fun _=>?_)
  ·have g':=of_decide_eq_true g
   have e1:w64 (w64 (n297+1+(i:Int) - n319) - 1)=n297+(i:Int) - n319:=by rw [w64_in (n297+1+(i:Int) - n319) (by omega),w64_in _ (by omega)];omega
   simp only [e1]
   refine pq_chk (decide_eq_true (by omega)) (pq_ite (fun g6=>?_) (fun _=>h2 _ _ _ _ _ _ _ _ _ (el_take hl)))
   exact put _ (el_take hl) _ _ _ _ _ _ (by have:=of_decide_eq_true g6;omega)
  ·exact pq_ite (fun g6=>put _ hl _ _ _ _ _ _ (by have:=of_decide_eq_true g6;omega)) (fun _=>h2 _ _ _ _ _ _ _ _ _ hl)
theorem app_take100008 {n787 n788 n789 n790 n791 n792 n793 n794 n795 n796 n797 n798 n799 n800 n801 n802:Int} {b803:Bool} {l804:List (List D)} {s805:ByteArray} {b811 b812 b813 b814 b815:Bool} {n821 n822 n823 n824 n825 n826 n828 n829 n830 n831 n832 n833 n834 n835 n836:Int} {b837:Bool} {l838:List (List D)} {s839:ByteArray} {n840 n841 n842 n843 n844 n845 n846 n847 n848:Int} {l850 l851 l852:List (List D)} {q1:Int→Int→Int→Bool→Bool→Bool→SV→SV→List (List D)→List (List D)→Rs} {q2:Int→Int→Int→Bool→Bool→Bool→Bool→Bool→List (List D)→Rs} {q3:Int→Int→SV→Bool→SV→SV→SV→SV→List (List D)→Rs} {n827 n807:Int} {l806:List (List D)} {zr:List DV} {zo:List (List D)} {P:Rs→Prop} (hb:0≤n827∧n827≤200000) (he:EL shEntry 1000 l806) (ha:n827≤n807∧n807≤300000)
  (h1:∀a b c d e f g h l,EL shEntry 100 l→PQ zr zo P (q1 a b c d e f g h l [])) (h2:∀a b c d e f g h l,EL shEntry 100 l→PQ zr zo P (q2 a b c d e f g h l)) (h3:∀a b c d e f g h l,EL shEntry 100 l→PQ zr zo P (q3 a b c d e f g h l)) :
  ∀(k i m:Nat) (n:Int) (v1 v2 v3 v4 v5 v6:SV) (l:List (List D)),i+k=l806.length→k < m→EL shEntry 100 l→PQ zr zo P (la88o100008 t23 t37 t85 t105 n787 n788 n789 n790 n791 n792 n793 n794 n795 n796 n797 n798 n799 n800 n801 n802 b803 l804 s805 l806 n807 b811 b812 b813 b814 b815 n821 n822 n823 n824 n825 n826 n827 n828 n829 n830 n831 n832 n833 n834 n835 n836 b837 l838 s839 n840 n841 n842 n843 n844 n845 n846 n847 n848 l850 l851 l852 q1 q2 q3 m n (i:Int) v1 v2 v3 v4 v5 v6 l):=by
 have hel:=he.1
 intro k
 induction k with
 | zero =>
  intro i m n v1 v2 v3 v4 v5 v6 l e hm hl
  obtain ⟨m,rfl⟩:∃m',m=m' + 1:=⟨m - 1,by omega⟩
  have c:decide ((i:Int) < (l806.length:Int))=false:=decide_eq_false (by omega)
  simp only [la88o100008,c,Bool.false_eq_true,if_false]
  exact h3 _ _ _ _ _ _ _ _ _ hl
 | succ k ih =>
  intro i m n v1 v2 v3 v4 v5 v6 l e hm hl
  obtain ⟨m,rfl⟩:∃m',m=m' + 1:=⟨m - 1,by omega⟩
  have hll:=hl.1
  have hi:i < l806.length:=by omega
  have ew1:∀x,okR zr23 zo23 (some ([.one (.i .i64 x)],[]))=true:=fun _=>rfl
  have ew:∀x,okR zr37 zo37 (some ([.one (.i .i64 x)],[]))=true:=fun _=>rfl
  have ei:∀x,asI (resC (some ([.one (.i .i64 x)],[])) 0 0)=x:=fun _=>rfl
  have hy:w64 (w64 (n807+1)+(i:Int))=n807+1+(i:Int):=by rw [w64_in (n807+1) (by omega),w64_in _ (by omega)]
  have hln:w64 (n827+(l.length:Int))=n827+(l.length:Int):=w64_in _ (by omega)
  have ez:=row_in he.2 _ entry_row i hi
  have er:((flatR 2 [[D.i .i64 (asI (nthD (l806.getD i []) 0)),.s (asS (nthD (l806.getD i []) 1))]])=true):=rfl
  have hnew:typL shEntry [D.i .i64 (asI (nthD (l806.getD i []) 0)),.s (asS (nthD (l806.getD i []) 1))]:=by
   rw [entry_eta (typ_getD he hi)];exact typ_getD he hi
  have tok:∀a1 a2 a3 a4 a5 a6 a8 a10 a11 a12 a13,(okR zr37 zo37 (t37 a1 a2 a3 a4 a5 a6 n827 a8 l a10 a11 a12 a13 (n807+1+(i:Int)))||!decide (n807+1+(i:Int)≤n827+(l.length:Int)))=true:=fun a1 a2 a3 a4 a5 a6 a8 a10 a11 a12 a13=>by
   by_cases g:n807+1+(i:Int)≤n827+(l.length:Int)
   ·rw [term_spec a1 a2 a3 a4 a5 a6 n827 a8 l a10 a11 a12 a13 hl.2 hll hb _ ⟨by omega,g⟩,ew,Bool.true_or]
   ·rw [decide_eq_false g,Bool.not_false,Bool.or_true]
  simp only [la88o100008,nat_in hi,nat_pos,if_true,last_spec,ew1,ei,hln,hy,tok,Int.toNat_natCast,ez,Bool.and_self,Bool.true_or,chk_true]
  rw [w64_succ i (by omega)]
  refine pq_ite (fun _=>ih (i+1) m _ _ _ _ _ _ _ _ (by omega) (by omega) hl) (fun _=>pq_ite (fun _=>h1 _ _ _ _ _ _ _ _ _ hl) (fun _=>?_))
  have put:∀l':List (List D),EL shEntry 100 l'→∀u1 u2 u3 u4 u5 u6:SV,l'.length < 60→PQ zr zo P (chk (flatR 2 [[D.i .i64 (asI (nthD (l806.getD i []) 0)),.s (asS (nthD (l806.getD i []) 1))]]&&decide (l'.length + [[D.i .i64 (asI (nthD (l806.getD i []) 0)),.s (asS (nthD (l806.getD i []) 1))]].length≤lim)) (la88o100008 t23 t37 t85 t105 n787 n788 n789 n790 n791 n792 n793 n794 n795 n796 n797 n798 n799 n800 n801 n802 b803 l804 s805 l806 n807 b811 b812 b813 b814 b815 n821 n822 n823 n824 n825 n826 n827 n828 n829 n830 n831 n832 n833 n834 n835 n836 b837 l838 s839 n840 n841 n842 n843 n844 n845 n846 n847 n848 l850 l851 l852 q1 q2 q3 m (n807+1+(i:Int)) ((i+1:Nat):Int) u1 u2 u3 u4 u5 u6 (l'++[[D.i .i64 (asI (nthD (l806.getD i []) 0)),.s (asS (nthD (l806.getD i []) 1))]]))):=fun l' hl' u1 u2 u3 u4 u5 u6 h6=>by
   refine pq_chk ?_ (ih (i+1) m _ _ _ _ _ _ _ _ (by omega) (by omega) ⟨by rw [List.length_append,List.length_singleton];omega,(el_app hl' (el_one hnew)).2⟩)
   rw [er,decide_eq_true (by simp only [List.length_singleton];unfold lim;omega)];rfl
  refine pq_ite (fun g=>?_) (fun _=>?_)
  ·have g':=of_decide_eq_true g
   have e1:w64 (w64 (n807+1+(i:Int) - n827) - 1)=n807+(i:Int) - n827:=by rw [w64_in (n807+1+(i:Int) - n827) (by omega),w64_in _ (by omega)];omega
   simp only [e1]
   refine pq_chk (decide_eq_true (by omega)) (pq_ite (fun g6=>?_) (fun _=>h2 _ _ _ _ _ _ _ _ _ (el_take hl)))
   exact put _ (el_take hl) _ _ _ _ _ _ (by have:=of_decide_eq_true g6;omega)
  ·exact pq_ite (fun g6=>put _ hl _ _ _ _ _ _ (by have:=of_decide_eq_true g6;omega)) (fun _=>h2 _ _ _ _ _ _ _ _ _ hl)
theorem z1_ent {l:List (List D)} (h:∀r∈l,typL shEntry r):(l.getD 0 z38).length=(z38:List D).length:=by
 cases l with
 | nil=>rfl
 | cons r b=>obtain ⟨a,c,rfl,_⟩:=Entry_row (h r (by simp));rfl
theorem n88 (n1 n2 n3 n4 n5 n6 n7 n8:Int) (l9:List (List D)) (n10:Int) (l11 l12 l13:List (List D)) (m1 m2 m3 m4 m5 m6 m7:Int) (m8:Bool) (m9:List (List D)) (m10:ByteArray) (c:CB n7 n8 l9 l11 l12 l13) (o:CO n1 n2 n3 n7 l9 n10) (hix:0≤m5∧m5≤100000) (hm:EL shEntry 1000 m9) :
  PQ zr88 zo88 cbO (t88 n1 n2 n3 n4 n5 n6 n7 n8 l9 n10 l11 l12 l13 m1 m2 m3 m4 m5 m6 m7 m8 m9 m10):=by
 have hq:=o.q
 have hl9:=o.l
 have hml:=hm.1
 have ew1:∀x,okR zr23 zo23 (some ([.one (.i .i64 x)],[]))=true:=fun _=>rfl
 have ew2:∀x,okR zr37 zo37 (some ([.one (.i .i64 x)],[]))=true:=fun _=>rfl
 have ew3:∀x,okR zr105 zo105 (some ([.one (.l x)],[]))=true:=fun _=>rfl
 have ei:∀x,asI (resC (some ([.one (.i .i64 x)],[])) 0 0)=x:=fun _=>rfl
 have hln:w64 (n7+(l9.length:Int))=n7+(l9.length:Int):=w64_in _ (by omega)
 have told:∀a1 a2 a3 a4 a5 a6 a7 a8 b1 a9 b2 b3 b4 a10 e a11,t105 a1 a2 a3 a4 a5 a6 a7 a8 b1 a9 b2 b3 b4 a10 e a11=some ([.one (.l [[.i .i64 4,.i .i64 a1,.i .i64 a10,.i .i64 a3,.i .i64 a11,.i .i64 0,.i .i64 0,.b e,.l [],.s ⟨#[]⟩]])],[]):=fun _ _ _ _ _ _ _ _ _ _ _ _ _ _ _ _=>rfl
 have fin:∀(a1 a2 a3 a4 a5 a6 a8 a9:Int) (G X:List (List D)),I64 a8→EL shEntry 100 G→PQ zr88 zo88 cbO (some ([.agg [.i .i64 a1,.i .i64 a2,.i .i64 a3,.i .i64 a4,.i .i64 a5,.i .i64 a6,.i .i64 n7,.i .i64 a8,.l G,.i .i64 a9,.l [],.l [],.l []],.one (.l X)],[])):=fun _ _ _ _ _ _ _ _ G X h8 hG=>⟨rfl,cb0 c.b h8 hG⟩
 unfold t88 ta88
 refine pq_ite (fun _=>⟨rfl,c⟩) (fun _=>?_)
 obtain ⟨v,hd⟩:=down_spec n1 n2 n3 n4 n5 n6 n7 n8 l9 n10 l11 l12 l13 n3
 extract_lets +onlyGivenNames -underBinder y2
 have hy:y2=_:=hd
 clear_value y2
 subst hy
 refine pq_chk rfl ?_
 extract_lets +onlyGivenNames -underBinder y3 y4
 have hy3:y3=n7:=rfl
 refine pq_ite (fun g=>?_) (fun g=>?_)
 ·have g':m5 < n7:=of_decide_eq_true g
  extract_lets +onlyGivenNames -underBinder k1
  have key:∀n:Int,0≤n→n≤(m9.length:Int)→PQ zr88 zo88 cbO (k1 n):=fun n h0 h1=>by
   have hdr:EL shEntry 1000 (m9.drop n.toNat):=el_drop hm
   simp only [k1,hy3]
   refine pq_chk (decide_eq_true ⟨h0,h1,z1_ent hm.2⟩) ?_
   refine pq_chk ?_ (pq_ite (fun _=>fin _ _ _ _ _ _ _ _ _ _ c.t c.e) (fun _=>?_))
   ·by_cases gl:0 < (m9.drop n.toNat).length
    ·rw [show (0:Int).toNat=0 from rfl,row_in hdr.2 _ entry_row 0 gl,decide_eq_true (show (0:Int) < ((m9.drop n.toNat).length:Int) by omega)];rfl
    ·rw [decide_eq_false (show ¬ ((m9.drop n.toNat).length:Int) > 0 by omega)];simp
   ·simp only [resC,nthR,cellsDV,nthD,asI,asL,last_spec,hln,ew1,chk_true,told,ew3]
    refine pq_ite (fun _=>fin _ _ _ _ _ _ _ _ _ _ c.t c.e) (fun _=>?_)
    have et:=fun a1 a2 a3 a4 a5 a6 a8 a10 a11 a12 a13=>term_spec a1 a2 a3 a4 a5 a6 n7 a8 l9 a10 a11 a12 a13 c.e.2 c.e.1 c.b n7 ⟨Int.le_refl _,by omega⟩
    simp only [et,ew2,Bool.true_or,chk_true]
    refine pq_ite (fun _=>?_) (fun _=>?_)
    ·exact app_dn6 c.b c.e (fun _ _=>fin _ _ _ _ _ _ _ _ _ _ c.t c.e) n7 _ (Int.le_refl _) (by omega)
    ·refine app_take8 c.b hdr ⟨Int.le_refl _,by omega⟩ (fun _ _ _ _ _ _ _ _ l hl=>fin _ _ _ _ _ _ _ _ _ _ c.t hl) (fun _ _ _ _ _ _ _ _ l hl=>?_) (fun _ _ _ _ _ _ _ _ l hl=>?_) (m9.drop n.toNat).length 0 KK _ _ _ _ _ _ _ _ (Nat.zero_add _) (by have:=hdr.1;rw [KK_eq];omega) c.e
     all_goals exact pq_ite (fun _=>pq_ite (fun _=>fin _ _ _ _ _ _ _ _ _ _ c.t hl) (fun _=>fin _ _ _ _ _ _ _ _ _ _ c.t hl)) (fun _=>pq_ite (fun _=>fin _ _ _ _ _ _ _ _ _ _ c.t hl) (fun _=>fin _ _ _ _ _ _ _ _ _ _ c.t hl))
  refine pq_ite (fun _=>key _ (by omega) (Int.le_refl _)) (fun g2=>?_)
  have e1:w64 (y3 - m5)=n7 - m5:=by rw [hy3];exact w64_in _ (by omega)
  have g2':=of_decide_eq_false g2
  rw [e1] at g2' ⊢
  exact key _ (by omega) (by omega)
 ·have g':¬ m5 < n7:=of_decide_eq_false g
  simp only [hy3]
  refine pq_chk ?_ (pq_ite (fun _=>fin _ _ _ _ _ _ _ _ _ _ c.t c.e) (fun _=>?_))
  ·by_cases gl:0 < m9.length
   ·rw [show (0:Int).toNat=0 from rfl,row_in hm.2 _ entry_row 0 gl,decide_eq_true (show (0:Int) < (m9.length:Int) by omega)];rfl
   ·rw [decide_eq_false (show ¬ (m9.length:Int) > 0 by omega)];simp
  ·simp only [resC,nthR,cellsDV,nthD,asI,asL,last_spec,hln,ew1,chk_true,told,ew3]
   refine pq_ite (fun _=>fin _ _ _ _ _ _ _ _ _ _ c.t c.e) (fun g3=>?_)
   have g3':=of_decide_eq_false g3
   have et:=fun a1 a2 a3 a4 a5 a6 a8 a10 a11 a12 a13=>term_spec a1 a2 a3 a4 a5 a6 n7 a8 l9 a10 a11 a12 a13 c.e.2 c.e.1 c.b m5 ⟨by omega,by omega⟩
   simp only [et,ew2,Bool.true_or,chk_true]
   refine pq_ite (fun _=>?_) (fun _=>?_)
   ·exact app_dn100006 c.b c.e (fun _ _=>fin _ _ _ _ _ _ _ _ _ _ c.t c.e) m5 _ (by omega) (by omega)
   ·refine app_take100008 c.b hm ⟨by omega,by omega⟩ (fun _ _ _ _ _ _ _ _ l hl=>fin _ _ _ _ _ _ _ _ _ _ c.t hl) (fun _ _ _ _ _ _ _ _ l hl=>?_) (fun _ _ _ _ _ _ _ _ l hl=>?_) m9.length 0 KK _ _ _ _ _ _ _ _ (Nat.zero_add _) (by rw [KK_eq];omega) c.e
    all_goals exact pq_ite (fun _=>pq_ite (fun _=>fin _ _ _ _ _ _ _ _ _ _ c.t hl) (fun _=>fin _ _ _ _ _ _ _ _ _ _ c.t hl)) (fun _=>pq_ite (fun _=>fin _ _ _ _ _ _ _ _ _ _ c.t hl) (fun _=>fin _ _ _ _ _ _ _ _ _ _ c.t hl))
end Go.Den.L4

/- What cores that are played with fulfil: what is heard, and the other turns. -/
namespace Go.Den.L4
open Go
theorem n90 (n1 n2 n3 n4 n5 n6 n7 n8:Int) (l9:List (List D)) (n10:Int) (l11 l12 l13:List (List D)) (m1 m2 m3 m4 m5 m6 m7:Int) (m8:Bool) (m9:List (List D)) (m10:ByteArray) (c:CB n7 n8 l9 l11 l12 l13) (o:CO n1 n2 n3 n7 l9 n10) (hix:0≤m5∧m5≤100000) (h6:I64 m6) :
  PQ zr90 zo90 cbO (t90 n1 n2 n3 n4 n5 n6 n7 n8 l9 n10 l11 l12 l13 m1 m2 m3 m4 m5 m6 m7 m8 m9 m10):=by
 have hq:=o.q
 have hc:=o.c
 have hl9:=o.l
 have ew1:∀x,okR zr23 zo23 (some ([.one (.i .i64 x)],[]))=true:=fun _=>rfl
 have ew2:∀x,okR zr37 zo37 (some ([.one (.i .i64 x)],[]))=true:=fun _=>rfl
 have ew3:∀x,okR zr105 zo105 (some ([.one (.l x)],[]))=true:=fun _=>rfl
 have hln:w64 (n7+(l9.length:Int))=n7+(l9.length:Int):=w64_in _ (by omega)
 have told:∀a1 a2 a3 a4 a5 a6 a7 a8 b1 a9 b2 b3 b4 a10 e a11,t105 a1 a2 a3 a4 a5 a6 a7 a8 b1 a9 b2 b3 b4 a10 e a11=some ([.one (.l [[.i .i64 4,.i .i64 a1,.i .i64 a10,.i .i64 a3,.i .i64 a11,.i .i64 0,.i .i64 0,.b e,.l [],.s ⟨#[]⟩]])],[]):=fun _ _ _ _ _ _ _ _ _ _ _ _ _ _ _ _=>rfl
 have fin:∀(a1 a2 a3 a4 a5 a6 a7 a8 a9:Int) (G X:List (List D)),0≤a7∧a7≤200000→I64 a8→EL shEntry 100 G→PQ zr90 zo90 cbO (some ([.agg [.i .i64 a1,.i .i64 a2,.i .i64 a3,.i .i64 a4,.i .i64 a5,.i .i64 a6,.i .i64 a7,.i .i64 a8,.l G,.i .i64 a9,.l [],.l [],.l []],.one (.l X)],[])):=fun _ _ _ _ _ _ _ _ _ G X hb h8 hG=>⟨rfl,cb0 hb h8 hG⟩
 unfold t90 ta90
 refine pq_ite (fun _=>⟨rfl,c⟩) (fun _=>?_)
 obtain ⟨v,hd⟩:=down_spec n1 n2 n3 n4 n5 n6 n7 n8 l9 n10 l11 l12 l13 n3
 have wd:okR zr85 zo85 (some ([.agg [.i .i64 n1,.i .i64 n2,.i .i64 n3,.i .i64 v,.i .i64 1,.i .i64 (-1),.i .i64 n7,.i .i64 n8,.l l9,.i .i64 n10,.l [],.l [],.l []]],[]))=true:=rfl
 simp only [hd,wd,chk_true]
 simp only [resC,nthR,cellsDV,nthD,asI,asL,told,ew3,chk_true,last_spec,hln,ew1]
 refine pq_ite (fun _=>fin _ _ _ _ _ _ _ _ _ _ _ c.b c.t c.e) (fun g=>?_)
 have g':=of_decide_eq_false g
 by_cases h:m5≤n7+(l9.length:Int)
 ·have et:=fun a1 a2 a3 a4 a5 a6 a8 a10 a11 a12 a13=>term_spec a1 a2 a3 a4 a5 a6 n7 a8 l9 a10 a11 a12 a13 c.e.2 c.e.1 c.b m5 ⟨by omega,h⟩
  simp only [et,ew2,Bool.true_or,chk_true,w64_in (m5 - n7) (by omega)]
  exact pq_ite (fun _=>pq_chk (decide_eq_true (by omega)) (fin _ _ _ _ _ _ _ _ _ _ _ (by omega) h6 (el_drop c.e))) (fun _=>fin _ _ _ _ _ _ _ _ _ _ _ (by omega) h6 (el_mono (by decide) (el_nil _)))
 ·have hf:decide (m5≤n7+(l9.length:Int))=false:=decide_eq_false h
  simp only [hf,Bool.not_false,Bool.or_true,chk_true,Bool.false_and,Bool.false_eq_true,if_false]
  exact fin _ _ _ _ _ _ _ _ _ _ _ (by omega) h6 (el_mono (by decide) (el_nil _))
theorem place_in {a b:Int} (h:placeB a b=true):(0≤a∧a≤100000)∧0≤b∧b≤100000:=by
 unfold placeB at h
 simp at h
 omega
theorem msg_more {n1 n2 n3 n4 n5 n6 n7:Int} {b8:Bool} {l9:List (List D)} {s10:ByteArray} (h:msgOk n1 n2 n3 n4 n5 n6 n7 b8 l9 s10=true):0≤n2∧1≤n4∧n4≤100000∧(n1≠2→(0≤n5∧n5≤100000)∧0≤n6∧n6≤100000):=by
 unfold msgOk at h
 simp only [Bool.and_eq_true,decide_eq_true_eq] at h
 obtain ⟨⟨⟨h1,h2⟩,h3⟩,⟨h4,h5⟩,h6⟩:=h
 refine ⟨h1.1,h4,h5,fun hn=>?_⟩
 split at h6
 ·simp only [Bool.and_eq_true] at h6;exact place_in h6.1
 split at h6
 ·simp only [Bool.and_eq_true] at h6;exact place_in h6.1
 split at h6
 ·simp only [decide_eq_true_eq] at h6;omega
 split at h6
 ·simp only [Bool.and_eq_true,decide_eq_true_eq] at h6;omega
 ·cases h6
noncomputable def reC (zr:List DV) (zo:List (List D)) (y:Rs):Rs:=chk (okR zr zo y) (some ([.agg [.i .i64 (asI (resC y 0 0)),.i .i64 (asI (resC y 0 1)),.i .i64 (asI (resC y 0 2)),.i .i64 (asI (resC y 0 3)),.i .i64 (asI (resC y 0 4)),.i .i64 (asI (resC y 0 5)),.i .i64 (asI (resC y 0 6)),.i .i64 (asI (resC y 0 7)),.l (asL (resC y 0 8)),.i .i64 (asI (resC y 0 9)),.l (asL (resC y 0 10)),.l (asL (resC y 0 11)),.l (asL (resC y 0 12))],.one (.l (asL (resC y 1 0)))],[]))
theorem reC_ok {zr:List DV} {zo:List (List D)} {y:Rs} (h:PQ zr zo cbO y):PQ zr78 zo78 cbO (reC zr zo y):=by
 unfold reC
 exact pq_chk h.1 ⟨rfl,h.2⟩
theorem role_R3 {n1 n2 n3 n4 n5 n6 n7:Int} {l9 l11 l12 l13:List (List D)} {n10 n8:Int} (h:coreB n1 n2 n3 n4 n5 n6 n7 n8 l9 n10 l11 l12 l13=true):R3 n2 n5 n7 l9 l12 l13:=fun e=>by
 subst e
 exact lead_more h
theorem n78 (n1 n2 n3 n4 n5 n6 n7 n8:Int) (l9:List (List D)) (n10:Int) (l11 l12 l13:List (List D)) (m1 m2 m3 m4 m5 m6 m7:Int) (m8:Bool) (m9:List (List D)) (m10:ByteArray) (c:CB n7 n8 l9 l11 l12 l13) (hm:EL shEntry 1000 m9):PQ zr78 zo78 cbO (t78 n1 n2 n3 n4 n5 n6 n7 n8 l9 n10 l11 l12 l13 m1 m2 m3 m4 m5 m6 m7 m8 m9 m10):=by
 have ew2:∀x,okR zr7 zo7 (some ([.one (.b x)],[]))=true:=fun _=>rfl
 have ew3:∀x,okR zr84 zo84 (some ([.one (.b x)],[]))=true:=fun _=>rfl
 have w1:okR zr31 zo31 (some ([.agg [.i .i64 n1,.i .i64 n2,.i .i64 n3,.i .i64 n4,.i .i64 n5,.i .i64 n6,.i .i64 n7,.i .i64 n8,.l l9,.i .i64 n10,.l l11,.l l12,.l l13]],[]))=true:=rfl
 have five:∀(a1 a2 a3 a4 a5 a6 a7 a8:Int) (L:List (List D)) (a10:Int) (X Y Z:List (List D)),CB a7 a8 L X Y Z→CO a1 a2 a3 a7 L a10→R3 a2 a5 a7 L Y Z→msgOk m1 m2 m3 m4 m5 m6 m7 m8 m9 m10=true→m2 < a2→PQ zr78 zo78 cbO (if (m1==1)=true then reC zr86 zo86 (t86 a1 a2 a3 a4 a5 a6 a7 a8 L a10 X Y Z m1 m2 m3 m4 m5 m6 m7 m8 m9 m10) else if (m1==2)=true then reC zr87 zo87 (t87 a1 a2 a3 a4 a5 a6 a7 a8 L a10 X Y Z m1 m2 m3 m4 m5 m6 m7 m8 m9 m10) else
   if (m1==3)=true then reC zr88 zo88 (t88 a1 a2 a3 a4 a5 a6 a7 a8 L a10 X Y Z m1 m2 m3 m4 m5 m6 m7 m8 m9 m10) else if (m1==4)=true then reC zr89 zo89 (t89 a1 a2 a3 a4 a5 a6 a7 a8 L a10 X Y Z m1 m2 m3 m4 m5 m6 m7 m8 m9 m10) else reC zr90 zo90 (t90 a1 a2 a3 a4 a5 a6 a7 a8 L a10 X Y Z m1 m2 m3 m4 m5 m6 m7 m8 m9 m10)):=fun a1 a2 a3 a4 a5 a6 a7 a8 L a10 X Y Z c o r hk hlt=>by
  obtain ⟨k1,k2,k3,k4⟩:=msg_more hk
  refine pq_ite (fun _=>reC_ok (n86 _ _ _ _ _ _ _ _ _ _ _ _ _ _ _ _ _ _ _ _ _ _ _ c)) (fun _=>pq_ite (fun _=>reC_ok (n87 _ _ _ _ _ _ _ _ _ _ _ _ _ _ _ _ _ _ _ _ _ _ _ c o)) (fun g=>?_))
  have hn:m1≠2:=by simpa using g
  exact pq_ite (fun _=>reC_ok (n88 _ _ _ _ _ _ _ _ _ _ _ _ _ _ _ _ _ _ _ _ _ _ _ c o (k4 hn).1 hm)) (fun _=>pq_ite (fun _=>reC_ok (n89 _ _ _ _ _ _ _ _ _ _ _ _ _ _ _ _ _ _ _ _ _ _ _ c o r ⟨k1,hlt⟩ (k4 hn).1)) (fun _=>reC_ok (n90 _ _ _ _ _ _ _ _ _ _ _ _ _ _ _ _ _ _ _ _ _ _ _ c o (k4 hn).1 (by have:=(k4 hn).2;unfold I64;omega))))
 unfold t78 ta78
 rw [core_spec _ _ _ _ _ _ _ _ l9 _ l11 l12 l13 (Nat.le_trans c.e.1 (by decide)) c.e.2 (Nat.le_trans c.y.1 (by decide)) c.y.2 (Nat.le_trans c.x.1 (by decide)) c.x.2 (Nat.le_trans c.m.1 (by decide)) c.m.2,copy_spec n1 n2 n3 n4 n5 n6 n7 n8 l9 n10 l11 l12 l13 (Nat.le_trans c.e.1 (by decide)) c.e.2 (Nat.le_trans c.y.1 (by decide)) c.y.2 (Nat.le_trans c.x.1 (by decide)) c.x.2 (Nat.le_trans c.m.1 (by decide)) c.m.2,msgOk_spec m1 m2 m3 m4 m5 m6 m7 m8 m9 m10 (Nat.le_trans hm.1 (by decide)) hm.2]
 simp only [w1,ew2,ew3,chk_true,resC,nthR,cellsDV,nthD,asI,asL,asB]
 cases hB:coreB n1 n2 n3 n4 n5 n6 n7 n8 l9 n10 l11 l12 l13
 ·exact ⟨rfl,cb0 (n7:=0) (n8:=0) (l9:=[]) ⟨by decide,by decide⟩ (by unfold I64;decide) (el_mono (by decide) (el_nil _))⟩
 simp only [Bool.not_true,Bool.false_eq_true,if_false]
 obtain ⟨o,_,_⟩:=core_CO c.e.2 hB
 have r:=role_R3 hB
 refine pq_ite (fun _=>⟨rfl,c⟩) (fun g=>?_)
 simp only [Bool.or_eq_false_iff,decide_eq_false_iff_not,Bool.not_eq_false'] at g
 obtain ⟨⟨⟨g1,g2⟩,g3⟩,g4⟩:=g
 have hlt:m2 < n2:=by omega
 obtain ⟨k1,k2,k3,k4⟩:=msg_more g1
 refine pq_ite (fun _=>?_) (fun g5=>pq_ite (fun g6=>?_) (fun g6=>?_))
 ·exact pq_ite (fun _=>⟨rfl,c⟩) (fun _=>pq_ite (fun _=>pq_ite (fun _=>⟨rfl,c⟩) (fun _=>⟨rfl,c⟩)) (fun _=>pq_ite (fun _=>⟨rfl,c⟩) (fun _=>⟨rfl,c⟩)))
 ·obtain ⟨v,hd⟩:=down_spec n1 n2 n3 n4 n5 n6 n7 n8 l9 n10 l11 l12 l13 m4
  have wd:okR zr85 zo85 (some ([.agg [.i .i64 n1,.i .i64 n2,.i .i64 m4,.i .i64 v,.i .i64 1,.i .i64 (-1),.i .i64 n7,.i .i64 n8,.l l9,.i .i64 n10,.l [],.l [],.l []]],[]))=true:=rfl
  rw [hd]
  simp only [wd,chk_true,nthR,cellsDV,nthD,asI,asL]
  exact five n1 n2 m4 v 1 (-1) n7 n8 l9 n10 [] [] [] (cb0 c.b c.t c.e) ⟨o.p,o.i,by omega,o.q,o.c,o.l,o.e,o.z⟩ (fun e=>by cases e) g1 hlt
 ·exact five n1 n2 n3 n4 n5 n6 n7 n8 l9 n10 l11 l12 l13 c o r g1 hlt
end Go.Den.L4

/- What cores that are played with fulfil: the other turns. -/
namespace Go.Den.L4
open Go
theorem n63 (x1 x2 x3 x4 x5 x6:Int) (x7:ByteArray) (x8:List (List D)) (hl:EL shEntry 6200 x8):PQ zr63 zo63 cbO (t63 x1 x2 x3 x4 x5 x6 x7 x8):=by
 have hll:x8.length≤1048576:=Nat.le_trans hl.1 (by decide)
 have ew:∀x,okR zr21 zo21 (some ([.one (.b x)],[]))=true:=fun _=>rfl
 have ew2:∀x,okR zr7 zo7 (some ([.one (.b x)],[]))=true:=fun _=>rfl
 have eb:∀x,asB (resC (some ([.one (.b x)],[])) 0 0)=x:=fun _=>rfl
 have el:decide ((([]:List (List D)).length+x8.length)≤lim)=true:=by unfold lim;simp;omega
 have nn:∀r∈([]:List (List D)),typL shInt r:=fun r h=>by cases h
 have n0:([]:List (List D)).length≤1048576:=Nat.zero_le _
 simp only [t63,ta63,keptOk_spec _ _ _ _ _ x8 hll hl.2,ew,eb,entry_flat hl.2,el,List.nil_append,core_spec _ _ _ _ _ _ _ _ x8 _ [] [] [] hll hl.2 n0 nn n0 nn n0 nn,ew2,Bool.true_and,chk_true]
 have z:CB 0 0 [] [] [] []:=cb0 ⟨by decide,by decide⟩ (by unfold I64;decide) (el_mono (by decide) (el_nil _))
 refine pq_ite (fun _=>⟨rfl,z⟩) (fun _=>?_)
 cases hB:coreB x1 x2 x3 x4 1 (-1) x5 x6 x8 x5 [] [] []
 ·exact ⟨rfl,z⟩
 ·obtain ⟨o,pl,_⟩:=core_CO hl.2 hB
  have hq:=o.q
  have h6:=(place_in pl).2
  exact ⟨rfl,cb0 (show 0≤x5∧x5≤200000 by omega) (show I64 x6 by unfold I64;omega) ⟨Nat.le_trans o.l (by decide),hl.2⟩⟩
theorem n77 (n1 n2 n3 n4 n5 n6 n7 n8:Int) (l9:List (List D)) (n10:Int) (l11 l12 l13:List (List D)) (x14:Int) (c:CB n7 n8 l9 l11 l12 l13):PQ zr77 zo77 cbO (t77 n1 n2 n3 n4 n5 n6 n7 n8 l9 n10 l11 l12 l13 x14):=by
 have ew2:∀x,okR zr7 zo7 (some ([.one (.b x)],[]))=true:=fun _=>rfl
 have ew3:∀x,okR zr37 zo37 (some ([.one (.i .i64 x)],[]))=true:=fun _=>rfl
 have w1:okR zr31 zo31 (some ([.agg [.i .i64 n1,.i .i64 n2,.i .i64 n3,.i .i64 n4,.i .i64 n5,.i .i64 n6,.i .i64 n7,.i .i64 n8,.l l9,.i .i64 n10,.l l11,.l l12,.l l13]],[]))=true:=rfl
 unfold t77 ta77
 rw [core_spec _ _ _ _ _ _ _ _ l9 _ l11 l12 l13 (Nat.le_trans c.e.1 (by decide)) c.e.2 (Nat.le_trans c.y.1 (by decide)) c.y.2 (Nat.le_trans c.x.1 (by decide)) c.x.2 (Nat.le_trans c.m.1 (by decide)) c.m.2,copy_spec n1 n2 n3 n4 n5 n6 n7 n8 l9 n10 l11 l12 l13 (Nat.le_trans c.e.1 (by decide)) c.e.2 (Nat.le_trans c.y.1 (by decide)) c.y.2 (Nat.le_trans c.x.1 (by decide)) c.x.2 (Nat.le_trans c.m.1 (by decide)) c.m.2]
 simp only [w1,ew2,chk_true,resC,nthR,cellsDV,nthD,asI,asL,asB]
 cases hB:coreB n1 n2 n3 n4 n5 n6 n7 n8 l9 n10 l11 l12 l13
 ·exact ⟨rfl,cb0 (n7:=0) (n8:=0) (l9:=[]) ⟨by decide,by decide⟩ (by unfold I64;decide) (el_mono (by decide) (el_nil _))⟩
 simp only [Bool.not_true,Bool.false_eq_true,if_false]
 obtain ⟨o,_,_⟩:=core_CO c.e.2 hB
 have hq:=o.q
 have hc:=o.c
 refine pq_ite (fun _=>⟨rfl,c⟩) (fun g=>?_)
 simp only [Bool.or_eq_false_iff,decide_eq_false_iff_not] at g
 rw [term_spec n1 n2 n3 n4 n5 n6 n7 n8 l9 n10 l11 l12 l13 c.e.2 c.e.1 c.b x14 ⟨by omega,by omega⟩,w64_in (x14 - n7) (by omega)]
 exact pq_chk (ew3 _) (pq_chk (decide_eq_true (by omega)) ⟨rfl,⟨show 0≤x14∧x14≤200000 by omega,trm_lo c.e.2 c.t ⟨by omega,by omega⟩,el_drop c.e,c.y,c.x,c.m⟩⟩)
theorem n12 (n1 n2 n3 n4 n5 n6 n7 n8:Int) (l9:List (List D)) (n10:Int) (l11 l12 l13:List (List D)) (x14:ByteArray) (c:CB n7 n8 l9 l11 l12 l13):PQ zr12 zo12 cbO (t12 n1 n2 n3 n4 n5 n6 n7 n8 l9 n10 l11 l12 l13 x14):=by
 have ew2:∀x,okR zr7 zo7 (some ([.one (.b x)],[]))=true:=fun _=>rfl
 have ew4:∀x,okR zr33 zo33 (some ([.one (.l x)],[]))=true:=fun _=>rfl
 have ew6:∀x,okR zr23 zo23 (some ([.one (.i .i64 x)],[]))=true:=fun _=>rfl
 have w1:okR zr31 zo31 (some ([.agg [.i .i64 n1,.i .i64 n2,.i .i64 n3,.i .i64 n4,.i .i64 n5,.i .i64 n6,.i .i64 n7,.i .i64 n8,.l l9,.i .i64 n10,.l l11,.l l12,.l l13]],[]))=true:=rfl
 unfold t12 ta12
 rw [core_spec _ _ _ _ _ _ _ _ l9 _ l11 l12 l13 (Nat.le_trans c.e.1 (by decide)) c.e.2 (Nat.le_trans c.y.1 (by decide)) c.y.2 (Nat.le_trans c.x.1 (by decide)) c.x.2 (Nat.le_trans c.m.1 (by decide)) c.m.2,copy_spec n1 n2 n3 n4 n5 n6 n7 n8 l9 n10 l11 l12 l13 (Nat.le_trans c.e.1 (by decide)) c.e.2 (Nat.le_trans c.y.1 (by decide)) c.y.2 (Nat.le_trans c.x.1 (by decide)) c.x.2 (Nat.le_trans c.m.1 (by decide)) c.m.2]
 simp only [w1,ew2,chk_true,resC,nthR,cellsDV,nthD,asI,asL,asB]
 cases hB:coreB n1 n2 n3 n4 n5 n6 n7 n8 l9 n10 l11 l12 l13
 ·exact ⟨rfl,cb0 (n7:=0) (n8:=0) (l9:=[]) ⟨by decide,by decide⟩ (by unfold I64;decide) (el_mono (by decide) (el_nil _))⟩
 simp only [Bool.not_true,Bool.false_eq_true,if_false]
 obtain ⟨o,_,_⟩:=core_CO c.e.2 hB
 have r:=role_R3 hB
 obtain ⟨hp,hi,ht,hq,hc,hl,he,hz⟩:=o
 have ls:∀(n1 n2 n3 n4 n5 n6:Int) (l11 l12 l13:List (List D)),t23 n1 n2 n3 n4 n5 n6 n7 n8 l9 n10 l11 l12 l13=some ([.one (.i .i64 (n7+(l9.length:Int)))],[]):=fun _ _ _ _ _ _ _ _ _=>by rw [last_spec,w64_in (n7+(l9.length:Int)) (by omega)]
 simp only [ls,ew6,nthR,cellsDV,nthD,asI,Bool.true_or,chk_true]
 refine pq_ite (fun _=>⟨rfl,c⟩) (fun g=>?_)
 simp only [Bool.or_eq_false_iff,decide_eq_false_iff_not,bne_eq_false_iff_eq] at g
 obtain ⟨⟨⟨g0,g1⟩,g2⟩,g3⟩:=g
 subst g0
 obtain ⟨b1,b2,b3⟩:=r rfl
 have L:Led n1 n2 n3 n7 n10 l9 l12 l13 x14 n1.toNat:=⟨by omega,by omega,b1,b2,by omega,c.x.2,c.m.2,he,hz,hl,by omega,hc,ht,by omega⟩
 have hnx:∀p,p < l12.length→xI l12 p≤n7+(l9.length:Int)+1:=fun p hp=>(b3 p hp).1
 have F:=led_fit L true hnx
 have kS:=put_spec n1 n2 n3 n4 3 n6 n7 n8 l9 n10 l11 l12 l13 x14 _ L true (by simp;omega)
 obtain ⟨c1,c2,c3,c4⟩:=putL_ok L true
 generalize putL true l9 n3 x14=G at F kS c1 c2 c3 c4
 obtain ⟨s1,s2,s3⟩:=stR_int c.m.2 n1.toNat (n7+(G.length:Int)) (by omega)
 obtain ⟨u1,u2,u3⟩:=stR_int c.x.2 n1.toNat (n7+(G.length:Int)+1) (by omega)
 generalize com n2 n3 n7 n8 G n10 (stR l13 n1.toNat 0 [.i .i64 (n7+(G.length:Int))]) (n7+(G.length:Int) - n10).toNat=K at kS
 have kA:=all_spec n1 n2 n3 n4 3 n6 n7 n8 G K l11 (stR l12 n1.toNat 0 [.i .i64 (n7+(G.length:Int)+1)]) (stR l13 n1.toNat 0 [.i .i64 (n7+(G.length:Int))]) F l12.length b1.symm u1
 have kL:t23 n1 n2 n3 n4 3 n6 n7 n8 G K l11 (stR l12 n1.toNat 0 [.i .i64 (n7+(G.length:Int)+1)]) (stR l13 n1.toNat 0 [.i .i64 (n7+(G.length:Int))])=some ([.one (.i .i64 (n7+(G.length:Int)))],[]):=by
  rw [last_spec,w64_in (n7+(G.length:Int)) (by omega)]
 have v1:∀a b c,okR zr32 zo32 (some ([.agg [.i .i64 n1,.i .i64 n2,.i .i64 n3,.i .i64 n4,.i .i64 3,.i .i64 n6,.i .i64 n7,.i .i64 n8,.l G,.i .i64 K,.l a,.l b,.l c]],[]))=true:=fun _ _ _=>rfl
 rw [kS]
 simp only [v1,chk_true,nthR,cellsDV,nthD,asI,asL]
 rw [kA,kL]
 simp only [ew4,ew6,chk_true,nthR,cellsDV,nthD,asI,asL]
 exact ⟨rfl,⟨show 0≤n7∧n7≤200000 by omega,c.t,⟨show G.length≤100 by omega,c1⟩,c.y,⟨by show (stR l12 _ _ _).length≤100;rw [u1];exact c.x.1,u2⟩,⟨by show (stR l13 _ _ _).length≤100;rw [s1];exact c.m.1,s2⟩⟩⟩
theorem n76 (n1 n2 n3 n4 n5 n6 n7 n8:Int) (l9:List (List D)) (n10:Int) (l11 l12 l13:List (List D)) (c:CB n7 n8 l9 l11 l12 l13):PQ zr76 zo76 cbO (t76 n1 n2 n3 n4 n5 n6 n7 n8 l9 n10 l11 l12 l13):=by
 have ew2:∀x,okR zr7 zo7 (some ([.one (.b x)],[]))=true:=fun _=>rfl
 have w1:okR zr31 zo31 (some ([.agg [.i .i64 n1,.i .i64 n2,.i .i64 n3,.i .i64 n4,.i .i64 n5,.i .i64 n6,.i .i64 n7,.i .i64 n8,.l l9,.i .i64 n10,.l l11,.l l12,.l l13]],[]))=true:=rfl
 unfold t76 ta76
 rw [core_spec _ _ _ _ _ _ _ _ l9 _ l11 l12 l13 (Nat.le_trans c.e.1 (by decide)) c.e.2 (Nat.le_trans c.y.1 (by decide)) c.y.2 (Nat.le_trans c.x.1 (by decide)) c.x.2 (Nat.le_trans c.m.1 (by decide)) c.m.2,copy_spec n1 n2 n3 n4 n5 n6 n7 n8 l9 n10 l11 l12 l13 (Nat.le_trans c.e.1 (by decide)) c.e.2 (Nat.le_trans c.y.1 (by decide)) c.y.2 (Nat.le_trans c.x.1 (by decide)) c.x.2 (Nat.le_trans c.m.1 (by decide)) c.m.2]
 simp only [w1,ew2,chk_true,resC,nthR,cellsDV,nthD,asI,asL,asB]
 cases hB:coreB n1 n2 n3 n4 n5 n6 n7 n8 l9 n10 l11 l12 l13
 ·exact ⟨rfl,cb0 (n7:=0) (n8:=0) (l9:=[]) ⟨by decide,by decide⟩ (by unfold I64;decide) (el_mono (by decide) (el_nil _))⟩
 simp only [Bool.not_true,Bool.false_eq_true,if_false]
 obtain ⟨o,_,_⟩:=core_CO c.e.2 hB
 obtain ⟨hp,hi,ht,hq,hc,hl,he,hz⟩:=o
 have one:EL shInt 100 [[D.i .i64 n1]]:=el_mono (by decide) (el_one ⟨_,_,rfl,⟨_,rfl,wfI (by unfold I64;omega)⟩,rfl⟩)
 refine pq_ite (fun _=>⟨rfl,c⟩) (fun g=>?_)
 simp only [Bool.or_eq_false_iff,decide_eq_false_iff_not] at g
 rw [w64_in (n3+1) (by omega)]
 refine pq_ite (fun _=>reC_ok (n83 n1 n2 (n3+1) n1 2 (-1) n7 n8 l9 n10 _ l12 l13 ⟨hp,hi,by omega,hq,hc,hl,he,hz⟩ c.t)) (fun _=>?_)
 exact (congrArg (PQ _ _ cbO) (ask_loopS n1 n2 (n3+1) n7 n8 l9 _ (fun l=>some ([.agg [.i .i64 n1,.i .i64 n2,.i .i64 (n3+1),.i .i64 n1,.i .i64 (2:Int),.i .i64 (-1:Int),.i .i64 n7,.i .i64 n8,.l l9,.i .i64 n10,.l [[.i .i64 n1]],.l l12,.l l13],.one (.l l)],[])) (fun _ _ _ _=>rfl) he (by omega) (by omega) n2.toNat (by omega) (by omega) n2.toNat 0 KK .undef .undef [] (by omega) (by rw [KK_eq];omega) (Nat.le_refl _))).mpr ⟨rfl,⟨c.b,c.t,c.e,one,c.x,c.m⟩⟩
end Go.Den.L4

/- Draws of cores and of messages to them. -/
namespace Go.Den.L4
open Go
theorem cf0 (a0 a1 a2 a3 a4 a5 a6 a7:Int) (b8:List (List D)) (a9:Int) (b10 b11 b12:List (List D)):asI (resC (some ([.agg [.i .i64 a0,.i .i64 a1,.i .i64 a2,.i .i64 a3,.i .i64 a4,.i .i64 a5,.i .i64 a6,.i .i64 a7,.l b8,.i .i64 a9,.l b10,.l b11,.l b12]],[])) 0 0)=a0:=rfl
theorem cf1 (a0 a1 a2 a3 a4 a5 a6 a7:Int) (b8:List (List D)) (a9:Int) (b10 b11 b12:List (List D)):asI (resC (some ([.agg [.i .i64 a0,.i .i64 a1,.i .i64 a2,.i .i64 a3,.i .i64 a4,.i .i64 a5,.i .i64 a6,.i .i64 a7,.l b8,.i .i64 a9,.l b10,.l b11,.l b12]],[])) 0 1)=a1:=rfl
theorem cf2 (a0 a1 a2 a3 a4 a5 a6 a7:Int) (b8:List (List D)) (a9:Int) (b10 b11 b12:List (List D)):asI (resC (some ([.agg [.i .i64 a0,.i .i64 a1,.i .i64 a2,.i .i64 a3,.i .i64 a4,.i .i64 a5,.i .i64 a6,.i .i64 a7,.l b8,.i .i64 a9,.l b10,.l b11,.l b12]],[])) 0 2)=a2:=rfl
theorem cf3 (a0 a1 a2 a3 a4 a5 a6 a7:Int) (b8:List (List D)) (a9:Int) (b10 b11 b12:List (List D)):asI (resC (some ([.agg [.i .i64 a0,.i .i64 a1,.i .i64 a2,.i .i64 a3,.i .i64 a4,.i .i64 a5,.i .i64 a6,.i .i64 a7,.l b8,.i .i64 a9,.l b10,.l b11,.l b12]],[])) 0 3)=a3:=rfl
theorem cf4 (a0 a1 a2 a3 a4 a5 a6 a7:Int) (b8:List (List D)) (a9:Int) (b10 b11 b12:List (List D)):asI (resC (some ([.agg [.i .i64 a0,.i .i64 a1,.i .i64 a2,.i .i64 a3,.i .i64 a4,.i .i64 a5,.i .i64 a6,.i .i64 a7,.l b8,.i .i64 a9,.l b10,.l b11,.l b12]],[])) 0 4)=a4:=rfl
theorem cf5 (a0 a1 a2 a3 a4 a5 a6 a7:Int) (b8:List (List D)) (a9:Int) (b10 b11 b12:List (List D)):asI (resC (some ([.agg [.i .i64 a0,.i .i64 a1,.i .i64 a2,.i .i64 a3,.i .i64 a4,.i .i64 a5,.i .i64 a6,.i .i64 a7,.l b8,.i .i64 a9,.l b10,.l b11,.l b12]],[])) 0 5)=a5:=rfl
theorem cf6 (a0 a1 a2 a3 a4 a5 a6 a7:Int) (b8:List (List D)) (a9:Int) (b10 b11 b12:List (List D)):asI (resC (some ([.agg [.i .i64 a0,.i .i64 a1,.i .i64 a2,.i .i64 a3,.i .i64 a4,.i .i64 a5,.i .i64 a6,.i .i64 a7,.l b8,.i .i64 a9,.l b10,.l b11,.l b12]],[])) 0 6)=a6:=rfl
theorem cf7 (a0 a1 a2 a3 a4 a5 a6 a7:Int) (b8:List (List D)) (a9:Int) (b10 b11 b12:List (List D)):asI (resC (some ([.agg [.i .i64 a0,.i .i64 a1,.i .i64 a2,.i .i64 a3,.i .i64 a4,.i .i64 a5,.i .i64 a6,.i .i64 a7,.l b8,.i .i64 a9,.l b10,.l b11,.l b12]],[])) 0 7)=a7:=rfl
theorem cf8 (a0 a1 a2 a3 a4 a5 a6 a7:Int) (b8:List (List D)) (a9:Int) (b10 b11 b12:List (List D)):asL (resC (some ([.agg [.i .i64 a0,.i .i64 a1,.i .i64 a2,.i .i64 a3,.i .i64 a4,.i .i64 a5,.i .i64 a6,.i .i64 a7,.l b8,.i .i64 a9,.l b10,.l b11,.l b12]],[])) 0 8)=b8:=rfl
theorem cf9 (a0 a1 a2 a3 a4 a5 a6 a7:Int) (b8:List (List D)) (a9:Int) (b10 b11 b12:List (List D)):asI (resC (some ([.agg [.i .i64 a0,.i .i64 a1,.i .i64 a2,.i .i64 a3,.i .i64 a4,.i .i64 a5,.i .i64 a6,.i .i64 a7,.l b8,.i .i64 a9,.l b10,.l b11,.l b12]],[])) 0 9)=a9:=rfl
theorem cf10 (a0 a1 a2 a3 a4 a5 a6 a7:Int) (b8:List (List D)) (a9:Int) (b10 b11 b12:List (List D)):asL (resC (some ([.agg [.i .i64 a0,.i .i64 a1,.i .i64 a2,.i .i64 a3,.i .i64 a4,.i .i64 a5,.i .i64 a6,.i .i64 a7,.l b8,.i .i64 a9,.l b10,.l b11,.l b12]],[])) 0 10)=b10:=rfl
theorem cf11 (a0 a1 a2 a3 a4 a5 a6 a7:Int) (b8:List (List D)) (a9:Int) (b10 b11 b12:List (List D)):asL (resC (some ([.agg [.i .i64 a0,.i .i64 a1,.i .i64 a2,.i .i64 a3,.i .i64 a4,.i .i64 a5,.i .i64 a6,.i .i64 a7,.l b8,.i .i64 a9,.l b10,.l b11,.l b12]],[])) 0 11)=b11:=rfl
theorem cf12 (a0 a1 a2 a3 a4 a5 a6 a7:Int) (b8:List (List D)) (a9:Int) (b10 b11 b12:List (List D)):asL (resC (some ([.agg [.i .i64 a0,.i .i64 a1,.i .i64 a2,.i .i64 a3,.i .i64 a4,.i .i64 a5,.i .i64 a6,.i .i64 a7,.l b8,.i .i64 a9,.l b10,.l b11,.l b12]],[])) 0 12)=b12:=rfl
theorem n16 (l:List (List D)) (n:Int):okR zr16 zo16 (t16 l n)=true:=by
 unfold t16
 by_cases g:decide (w64 ((2:Int)+(w64 ((l.length:Int).tdiv (20:Int)))) > n)=true
 ·rw [if_pos g];rfl
 ·rw [if_neg g];rfl
theorem d19 {l:List (List D)} {i:Int} (C:Cu l i) (h:Int) (n1 n2 n3 n4 n5 n6 n7 n8:Int) (l9:List (List D)) (n10:Int) (l11 l12 l13:List (List D)) (c:CB n7 n8 l9 [] [] []):PQ zr19 zo19 (fun o=>Cu l (asI (outC o 0 1))∧EL shEntry 1000 (asL (resC o 0 8))∧True) (t19 l i h n1 n2 n3 n4 n5 n6 n7 n8 l9 n10 l11 l12 l13):=by
 have hb:=c.b
 have hll:=c.e.1
 have ew1:∀x,okR zr23 zo23 (some ([.one (.i .i64 x)],[]))=true:=fun _=>rfl
 have ew2:∀x,okR zr37 zo37 (some ([.one (.i .i64 x)],[]))=true:=fun _=>rfl
 have ei:∀x,asI (resC (some ([.one (.i .i64 x)],[])) 0 0)=x:=fun _=>rfl
 unfold t19 ta19
 simp only [last_spec,w64_in (n7+(l9.length:Int)) (by omega),ew1,ei,chk_true]
 obtain ⟨a2,c2,-,-,-,-,-,-,-,e2,-,-⟩:=d36 C h n2 n3 (n7+(l9.length:Int))
 generalize t36 l i h n2 n3 (n7+(l9.length:Int))=y2 at *
 refine pq_chk a2 (pq_ite (fun g=>?_) (fun g=>?_))
 ·obtain ⟨a7,c7,-⟩:=d17 c2 (asI (outC y2 0 2)) 3
  refine pq_chk a7 (pq_ite (fun _=>?_) (fun _=>⟨rfl,c7,el_mono (by decide) e2,trivial⟩))
  obtain ⟨a10,c10,b10,-⟩:=d29 c7 (asI (outC (t17 l (asI (outC y2 0 1)) (asI (outC y2 0 2)) 3) 0 2)) (w64 ((l9.length:Int)+1))
  rw [w64_in ((l9.length:Int)+1) (by omega)] at a10 c10 b10 ⊢
  generalize t29 l (asI (outC (t17 l (asI (outC y2 0 1)) (asI (outC y2 0 2)) 3) 0 1)) (asI (outC (t17 l (asI (outC y2 0 1)) (asI (outC y2 0 2)) 3) 0 2)) ((l9.length:Int)+1)=y10 at *
  have b11:=b10.2.2 (by omega)
  rw [w64_in (n7+asI (resC y10 0 0)) (by omega),term_spec n1 n2 n3 n4 n5 n6 n7 n8 l9 n10 l11 l12 l13 c.e.2 c.e.1 c.b (n7+asI (resC y10 0 0)) ⟨by omega,by omega⟩]
  simp only [ew2,ei,a10,chk_true]
  have it:I64 (trm n7 n8 l9 (n7+asI (resC y10 0 0))):=trm_lo c.e.2 c.t ⟨by omega,by omega⟩
  have key:∀n12,PQ zr38 zo38 _ (t38 l (asI (outC y10 0 1)) (asI (outC y10 0 2)) 4 (trm n7 n8 l9 (n7+asI (resC y10 0 0))) n12):=fun n12=>d38 c10 (asI (outC y10 0 2)) 4 _ n12 (by decide) it
  refine pq_ite (fun _=>?_) (fun _=>?_)
  ·obtain ⟨a,c,e,-⟩:=key (trm n7 n8 l9 (n7+asI (resC y10 0 0)))
   exact pq_chk a ⟨rfl,c,el_mono (by decide) e,trivial⟩
  ·obtain ⟨a,c,e,-⟩:=key (asI (resC y2 0 3))
   exact pq_chk a ⟨rfl,c,el_mono (by decide) e,trivial⟩
 ·simp only [g,Bool.false_eq_true,if_false,Bool.not_false,chk_true]
  exact ⟨rfl,c2,el_mono (by decide) e2,trivial⟩
theorem hear_cb (n1 n2 n3 n4 n5 n6 n7 n8:Int) (l9:List (List D)) (n10:Int) (l11 l12 l13:List (List D)) (m1 m2 m3 m4 m5 m6 m7:Int) (m8:Bool) (m9:List (List D)) (m10:ByteArray) (c:CB n7 n8 l9 l11 l12 l13) (hm:EL shEntry 1000 m9):PQ zr78 zo78 cbO (t78 n1 n2 n3 n4 n5 n6 n7 n8 l9 n10 l11 l12 l13 m1 m2 m3 m4 m5 m6 m7 m8 m9 m10):=n78 n1 n2 n3 n4 n5 n6 n7 n8 l9 n10 l11 l12 l13 m1 m2 m3 m4 m5 m6 m7 m8 m9 m10 c hm
theorem play_loop {n60:Int} {b61 b62 b63 b64:Bool} {l66:List (List D)} {n67 n68 n78 n79 n80 n81 n82 n83 n84 n85 n86:Int} {q1:SV→Int→Bool→Int→Int→Int→Int→Int→Int→Int→Int→Int→List (List D)→List (List D)→List (List D)→List (List D)→Rs} {zr:List DV} {zo:List (List D)} {P:Rs→Prop} (hq:∀v n b (a0 a1 a2 a3 a4 a5 a6 a7 a9:Int) (b8 b10 b11 b12:List (List D)),CB a6 a7 b8 b10 b11 b12→PQ zr zo P (q1 v n b a0 a1 a2 a3 a4 a5 a6 a7 a9 b8 b10 b11 b12)) :
  ∀(k i m:Nat) (v v':SV) (a0 a1 a2 a3 a4 a5 a6 a7 a9:Int) (b8 b10 b11 b12:List (List D)),i+k=3→k < m→CB a6 a7 b8 b10 b11 b12→PQ zr zo P (la64o5 t12 t19 t28 t29 t76 t77 t78 n60 b61 b62 b63 b64 l66 n67 n68 n78 n79 n80 n81 n82 n83 n84 n85 n86 q1 m v (i:Int) v' a0 a1 a2 a3 a4 a5 a6 a7 a9 b8 b10 b11 b12):=by
 intro k
 induction k with
 | zero =>
  intro i m v v' a0 a1 a2 a3 a4 a5 a6 a7 a9 b8 b10 b11 b12 e hm c
  obtain ⟨m,rfl⟩:∃m',m=m' + 1:=⟨m - 1,by omega⟩
  have d:decide ((i:Int) < 3)=false:=decide_eq_false (by omega)
  simp only [la64o5,d,Bool.false_eq_true,if_false]
  exact hq _ _ _ _ _ _ _ _ _ _ _ _ _ _ _ _ c
 | succ k ih =>
  intro i m v v' a0 a1 a2 a3 a4 a5 a6 a7 a9 b8 b10 b11 b12 e hm c
  obtain ⟨m,rfl⟩:∃m',m=m' + 1:=⟨m - 1,by omega⟩
  have d:decide ((i:Int) < 3)=true:=decide_eq_true (by omega)
  simp only [la64o5,d,if_true]
  obtain ⟨a,p⟩:=hear_cb a0 a1 a2 a3 a4 a5 a6 a7 b8 a9 b10 b11 b12 2 (i:Int) a0 a2 0 0 0 true [] ⟨#[]⟩ c (el_mono (by decide) (el_nil _))
  refine pq_chk a ?_
  rw [w64_succ i (by omega)]
  exact ih (i+1) m _ _ _ _ _ _ _ _ _ _ _ _ _ _ _ (by omega) (by omega) p
theorem d64 {l:List (List D)} {i:Int} (C:Cu l i) (h:Int) (n1 n2 n3 n4 n5 n6 n7 n8:Int) (l9:List (List D)) (n10:Int) (l11 l12 l13:List (List D)) (c:CB n7 n8 l9 l11 l12 l13):PQ zr64 zo64 (fun o=>Cu l (asI (outC o 0 1))∧cbO o) (t64 l i h n1 n2 n3 n4 n5 n6 n7 n8 l9 n10 l11 l12 l13):=by
 unfold t64 ta64
 obtain ⟨a1,c1,-⟩:=d29 C h 9
 generalize t29 l i h 9=y1 at *
 refine pq_chk a1 ?_
 extract_lets +onlyGivenNames -underBinder k1
 have key:∀b,PQ zr64 zo64 (fun o=>Cu l (asI (outC o 0 1))∧cbO o) (k1 b):=fun b=>by
  simp only [k1]
  refine pq_ite (fun _=>?_) (fun _=>pq_ite (fun _=>?_) (fun _=>pq_ite (fun _=>?_) (fun _=>pq_ite (fun _=>?_) (fun _=>?_))))
  ·obtain ⟨a,p⟩:=n76 n1 n2 n3 n4 n5 n6 n7 n8 l9 n10 l11 l12 l13 c
   exact pq_chk a ⟨rfl,c1,p⟩
  ·obtain ⟨a9,c9,-⟩:=d28 c1 (asI (outC y1 0 2)) 5 (by decide)
   refine pq_chk a9 ?_
   obtain ⟨a,p⟩:=n12 n1 n2 n3 n4 n5 n6 n7 n8 l9 n10 l11 l12 l13 (asS (resC (t28 l (asI (outC y1 0 1)) (asI (outC y1 0 2)) 5) 0 0)) c
   exact pq_chk a ⟨rfl,c9,p⟩
  ·obtain ⟨a9,c9,-⟩:=d29 c1 (asI (outC y1 0 2)) 4
   refine pq_chk a9 ?_
   obtain ⟨a,p⟩:=n77 n1 n2 n3 n4 n5 n6 n7 n8 l9 n10 l11 l12 l13 (w64 (n7+(asI (resC (t29 l (asI (outC y1 0 1)) (asI (outC y1 0 2)) 4) 0 0)))) c
   exact pq_chk a ⟨rfl,c9,p⟩
  ·exact play_loop (fun _ _ _ _ _ _ _ _ _ _ _ _ _ _ _ _ c=>⟨rfl,c1,c⟩) 3 0 KK _ _ _ _ _ _ _ _ _ _ _ _ _ _ _ (by omega) (by rw [KK_eq];omega) c
  ·obtain ⟨a9,c9,e9,-⟩:=d19 c1 (asI (outC y1 0 2)) n1 n2 n3 n4 n5 n6 n7 n8 l9 n10 l11 l12 l13 (cb0 c.b c.t c.e)
   generalize t19 l (asI (outC y1 0 1)) (asI (outC y1 0 2)) n1 n2 n3 n4 n5 n6 n7 n8 l9 n10 l11 l12 l13=y21 at *
   refine pq_chk a9 ?_
   obtain ⟨a,p⟩:=n78 n1 n2 n3 n4 n5 n6 n7 n8 l9 n10 l11 l12 l13 (asI (resC y21 0 0)) (asI (resC y21 0 1)) (asI (resC y21 0 2)) (asI (resC y21 0 3)) (asI (resC y21 0 4)) (asI (resC y21 0 5)) (asI (resC y21 0 6)) (asB (resC y21 0 7)) (asL (resC y21 0 8)) (asS (resC y21 0 9)) c e9
   exact pq_chk a ⟨rfl,c9,p⟩
 exact pq_ite (fun _=>key _) (fun _=>key _)
theorem core_loop {n57 n58:Int} {b59 b61 b62:Bool} {n67 n68 n69 n70 n71 n72 n73 n74 n75 n76 n77 n78 n79:Int} {s80:ByteArray} {l90 l91:List (List D)} {q1:Int→Bool→Int→Int→Int→Int→Int→Int→Int→Int→Int→Int→Int→List (List D)→List (List D)→List (List D)→List (List D)→Rs} {l64:List (List D)} {zr:List DV} {zo:List (List D)} {P:Rs→Prop} (hq:∀n b i h (a0 a1 a2 a3 a4 a5 a6 a7 a9:Int) (b8 b10 b11 b12:List (List D)),Cu l64 i→CB a6 a7 b8 b10 b11 b12→PQ zr zo P (q1 n b i h a0 a1 a2 a3 a4 a5 a6 a7 a9 b8 b10 b11 b12)) :
  ∀(k m:Nat) (n:Int) (v:SV) (i h:Int) (a0 a1 a2 a3 a4 a5 a6 a7 a9:Int) (b8 b10 b11 b12:List (List D)),n≤k→0≤n→n≤4294967295→k < m→Cu l64 i→CB a6 a7 b8 b10 b11 b12→PQ zr zo P (la34o2 t29 t35 t62 t63 t64 n57 n58 b59 b61 b62 l64 n67 n68 n69 n70 n71 n72 n73 n74 n75 n76 n77 n78 n79 s80 l90 l91 q1 m n v i h a0 a1 a2 a3 a4 a5 a6 a7 a9 b8 b10 b11 b12):=by
 intro k
 induction k with
 | zero =>
  intro m n v i h a0 a1 a2 a3 a4 a5 a6 a7 a9 b8 b10 b11 b12 hn hn0 hn1 hm C c
  obtain ⟨m,rfl⟩:∃m',m=m' + 1:=⟨m - 1,by omega⟩
  have d:decide (n > 0)=false:=decide_eq_false (by omega)
  simp only [la34o2,d,Bool.false_eq_true,if_false]
  exact hq _ _ _ _ _ _ _ _ _ _ _ _ _ _ _ _ _ C c
 | succ k ih =>
  intro m n v i h a0 a1 a2 a3 a4 a5 a6 a7 a9 b8 b10 b11 b12 hn hn0 hn1 hm C c
  obtain ⟨m,rfl⟩:∃m',m=m' + 1:=⟨m - 1,by omega⟩
  by_cases g:n > 0
  ·have d:decide (n > 0)=true:=decide_eq_true g
   simp only [la34o2,d,if_true]
   obtain ⟨a,C2,p⟩:=d64 C h a0 a1 a2 a3 a4 a5 a6 a7 b8 a9 b10 b11 b12 c
   refine pq_chk a ?_
   rw [w64_in (n - 1) (by omega)]
   exact ih m (n - 1) _ _ _ _ _ _ _ _ _ _ _ _ _ _ _ _ (by omega) (by omega) (by omega) (by omega) C2 p
  ·have d:decide (n > 0)=false:=decide_eq_false g
   simp only [la34o2,d,Bool.false_eq_true,if_false]
   exact hq _ _ _ _ _ _ _ _ _ _ _ _ _ _ _ _ _ C c
theorem d34 {l:List (List D)} {i:Int} (C:Cu l i) (h n3:Int):PQ zr34 zo34 (fun o=>Cu l (asI (outC o 0 1))∧cbO o) (t34 l i h n3):=by
 unfold t34 ta34
 obtain ⟨a1,c1,-,-,-,-,-,e1,-⟩:=d62 C h
 generalize t62 l i h=y1 at *
 refine pq_chk a1 ?_
 obtain ⟨a3,c3,-⟩:=d35 c1 (asI (outC y1 0 2)) [[.i .i64 (1:Int)],[.i .i64 (2:Int)],[.i .i64 (3:Int)],[.i .i64 (3:Int)],[.i .i64 (3:Int)],[.i .i64 (5:Int)]] (by decide)
 extract_lets +onlyGivenNames -underBinder yy y3
 have a3:okR zr35 zo35 y3=true:=a3
 have c3:Cu l (asI (outC y3 0 1)):=c3
 clear_value y3
 refine pq_chk a3 ?_
 extract_lets +onlyGivenNames -underBinder k1
 have key:∀v,PQ zr34 zo34 (fun o=>Cu l (asI (outC o 0 1))∧cbO o) (k1 v):=fun v=>by
  simp only [k1]
  obtain ⟨a5,c5,-⟩:=d29 c3 (asI (outC y3 0 2)) (asI (resC y3 0 0))
  generalize t29 l (asI (outC y3 0 1)) (asI (outC y3 0 2)) (asI (resC y3 0 0))=y5 at *
  obtain ⟨a6,p6⟩:=n63 (asI (resC y5 0 0)) (asI (resC y3 0 0)) (asI (resC y1 0 0)) v (asI (resC y1 0 2)) (asI (resC y1 0 3)) (asS (resC y1 0 4)) (asL (resC y1 0 5)) (el_mono (by decide) e1)
  obtain ⟨a7,p7⟩:=n63 0 3 0 (-1) 0 0 ⟨#[]⟩ [] (el_mono (by decide) (el_nil _))
  obtain ⟨a8,c8,b8,-⟩:=d29 c5 (asI (outC y5 0 2)) n3
  generalize t63 (asI (resC y5 0 0)) (asI (resC y3 0 0)) (asI (resC y1 0 0)) v (asI (resC y1 0 2)) (asI (resC y1 0 3)) (asS (resC y1 0 4)) (asL (resC y1 0 5))=y11 at *
  refine pq_chk a5 (pq_chk a6 ?_)
  refine pq_ite (fun _=>pq_chk a7 (pq_chk a8 ?_)) (fun _=>pq_chk a8 ?_)
  ·exact core_loop (fun _ _ _ _ _ _ _ _ _ _ _ _ _ _ _ _ _ C c=>⟨rfl,C,c⟩) 4294967295 KK _ _ _ _ _ _ _ _ _ _ _ _ _ _ _ _ _ (by omega) b8.1 b8.2.1 (by rw [KK_eq];omega) c8 p7
  ·exact core_loop (fun _ _ _ _ _ _ _ _ _ _ _ _ _ _ _ _ _ C c=>⟨rfl,C,c⟩) 4294967295 KK _ _ _ _ _ _ _ _ _ _ _ _ _ _ _ _ _ (by omega) b8.1 b8.2.1 (by rw [KK_eq];omega) c8 p6
 exact pq_ite (fun _=>key _) (fun _=>key _)
end Go.Den.L4

/- Draws: cores that may be spoilt. -/
namespace Go.Den.L4
open Go
/-- What a drawn core fulfils, right or not. -/
abbrev CW (o:Rs):Prop:=CB (asI (resC o 0 6)) (asI (resC o 0 7)) (asL (resC o 0 8)) [] [] []∧EL shInt 200 (asL (resC o 0 10))∧EL shInt 200 (asL (resC o 0 11))∧EL shInt 200 (asL (resC o 0 12))
theorem d15 {l:List (List D)} {i:Int} (C:Cu l i) (h n3:Int):PQ zr15 zo15 (fun o=>Cu l (asI (outC o 0 1))∧CW o) (t15 l i h n3):=by
 unfold t15 ta15
 obtain ⟨a1,c1,c⟩:=d34 C h n3
 generalize t34 l i h n3=y1 at *
 refine pq_chk a1 ?_
 obtain ⟨a2,c2,-⟩:=d17 c1 (asI (outC y1 0 2)) 10
 generalize t17 l (asI (outC y1 0 1)) (asI (outC y1 0 2)) 10=y2 at *
 refine pq_chk a2 ?_
 have cc:=cb0 c.b c.t c.e
 have cy:EL shInt 100 (asL (resC y1 0 10)):=c.y
 have w11:EL shInt 200 (asL (resC y1 0 10)):=el_mono (by decide) c.y
 have w12:EL shInt 200 (asL (resC y1 0 11)):=el_mono (by decide) c.x
 have w13:EL shInt 200 (asL (resC y1 0 12)):=el_mono (by decide) c.m
 refine pq_ite (fun _=>⟨rfl,c2,cc,w11,w12,w13⟩) (fun _=>?_)
 have wcp:∀(a0 a1 a2 a3 a4 a5 a6 a7:Int) (b8:List (List D)) (a9:Int) (b10 b11 b12:List (List D)),okR zr31 zo31 (some ([.agg [.i .i64 a0,.i .i64 a1,.i .i64 a2,.i .i64 a3,.i .i64 a4,.i .i64 a5,.i .i64 a6,.i .i64 a7,.l b8,.i .i64 a9,.l b10,.l b11,.l b12]],[]))=true:=fun _ _ _ _ _ _ _ _ _ _ _ _ _=>rfl
 simp only [copy_spec (asI (resC y1 0 0)) (asI (resC y1 0 1)) (asI (resC y1 0 2)) (asI (resC y1 0 3)) (asI (resC y1 0 4)) (asI (resC y1 0 5)) (asI (resC y1 0 6)) (asI (resC y1 0 7)) (asL (resC y1 0 8)) (asI (resC y1 0 9)) (asL (resC y1 0 10)) (asL (resC y1 0 11)) (asL (resC y1 0 12)) (Nat.le_trans c.e.1 (by decide)) c.e.2 (Nat.le_trans c.y.1 (by decide)) c.y.2 (Nat.le_trans c.x.1 (by decide)) c.x.2 (Nat.le_trans c.m.1 (by decide)) c.m.2,wcp,chk_true,cf0,cf1,cf2,cf3,cf4,cf5,cf6,cf7,cf8,cf9,cf10,cf11,cf12]
 generalize asI (resC y1 0 0)=q0 at *
 generalize asI (resC y1 0 1)=q1 at *
 generalize asI (resC y1 0 2)=q2 at *
 generalize asI (resC y1 0 3)=q3 at *
 generalize asI (resC y1 0 4)=q4 at *
 generalize asI (resC y1 0 5)=q5 at *
 generalize asI (resC y1 0 6)=q6 at *
 generalize asI (resC y1 0 7)=q7 at *
 generalize asL (resC y1 0 8)=q8 at *
 generalize asI (resC y1 0 9)=q9 at *
 generalize asL (resC y1 0 10)=q10 at *
 generalize asL (resC y1 0 11)=q11 at *
 generalize asL (resC y1 0 12)=q12 at *
 obtain ⟨a34,c34,-⟩:=d29 c2 (asI (outC y2 0 2)) 9
 generalize t29 l (asI (outC y2 0 1)) (asI (outC y2 0 2)) 9=y34 at *
 refine pq_chk a34 ?_
 have below:∀n,PQ zr29 zo29 _ (t29 l (asI (outC y34 0 1)) (asI (outC y34 0 2)) n):=fun n=>d29 c34 (asI (outC y34 0 2)) n
 refine pq_ite (fun _=>?_) (fun _=>?_)
 ·obtain ⟨a,p,-⟩:=d35 c34 (asI (outC y34 0 2)) [[.i .i64 (-1:Int)],[.i .i64 (1:Int)],[.i .i64 (5:Int)]] (by decide)
  exact pq_chk a ⟨rfl,p,cc,w11,w12,w13⟩
 refine pq_ite (fun _=>?_) (fun _=>?_)
 ·obtain ⟨a,p,-⟩:=d35 c34 (asI (outC y34 0 2)) [[.i .i64 (0:Int)],[.i .i64 (1:Int)],[.i .i64 (4:Int)],[.i .i64 (6:Int)]] (by decide)
  exact pq_chk a ⟨rfl,p,cc,w11,w12,w13⟩
 refine pq_ite (fun _=>?_) (fun _=>?_)
 ·obtain ⟨a,p,-⟩:=below 5
  exact pq_chk a ⟨rfl,p,cc,w11,w12,w13⟩
 refine pq_ite (fun _=>?_) (fun _=>?_)
 ·obtain ⟨a,p,-⟩:=below (w64 ((q8.length:Int)+3))
  exact pq_chk a ⟨rfl,p,cc,w11,w12,w13⟩
 refine pq_ite (fun _=>?_) (fun _=>?_)
 ·obtain ⟨a,p,b,-⟩:=below 4
  refine pq_chk a (pq_chk (int_chk (Nat.le_trans w11.1 (by decide)) _) ⟨rfl,p,cc,?_,w12,w13⟩)
  exact el_mono (show 100+1≤200 by decide) (ints_snoc cy (i64_b b))
 refine pq_ite (fun _=>?_) (fun _=>?_)
 ·obtain ⟨a,p,-⟩:=below 7
  exact pq_chk a ⟨rfl,p,cc,w11,w12,w13⟩
 refine pq_ite (fun _=>?_) (fun _=>?_)
 ·refine pq_ite (fun g=>?_) (fun _=>⟨rfl,c34,cc,w11,w12,w13⟩)
  have g':=of_decide_eq_true g
  obtain ⟨a,p,b,-⟩:=below (q11.length:Int)
  have b2:=b.2.2 g'
  generalize t29 l (asI (outC y34 0 1)) (asI (outC y34 0 2)) (q11.length:Int)=y143 at *
  obtain ⟨a5,p5,b5,-⟩:=d29 p (asI (outC y143 0 2)) 8
  refine pq_chk a (pq_chk a5 (pq_chk ?_ (pq_chk (decide_eq_true ⟨Nat.le_refl _,by omega⟩) ?_)))
  ·rw [decide_eq_true b.1,decide_eq_true b2];rfl
  ·obtain ⟨u1,u2,u3⟩:=stR_int w12.2 (asI (resC y143 0 0)).toNat _ (i64_b b5)
   exact ⟨rfl,p5,cc,w11,⟨by show (stR _ _ _ _).length≤200;rw [u1];exact w12.1,u2⟩,w13⟩
 refine pq_ite (fun _=>?_) (fun _=>?_)
 ·refine pq_ite (fun g=>?_) (fun _=>⟨rfl,c34,cc,w11,w12,w13⟩)
  have g':=of_decide_eq_true g
  obtain ⟨a,p,b,-⟩:=below (q12.length:Int)
  have b2:=b.2.2 g'
  generalize t29 l (asI (outC y34 0 1)) (asI (outC y34 0 2)) (q12.length:Int)=y143 at *
  obtain ⟨a5,p5,b5,-⟩:=d29 p (asI (outC y143 0 2)) 8
  refine pq_chk a (pq_chk a5 (pq_chk ?_ (pq_chk (decide_eq_true ⟨Nat.le_refl _,by omega⟩) ?_)))
  ·rw [decide_eq_true b.1,decide_eq_true b2];rfl
  ·obtain ⟨u1,u2,u3⟩:=stR_int w13.2 (asI (resC y143 0 0)).toNat _ (i64_w64 (asI (resC (t29 l (asI (outC y143 0 1)) (asI (outC y143 0 2)) 8) 0 0) - 1))
   exact ⟨rfl,p5,cc,w11,w12,⟨by show (stR _ _ _ _).length≤200;rw [u1];exact w13.1,u2⟩⟩
 ·obtain ⟨a,p,-⟩:=below 7
  exact pq_chk a ⟨rfl,p,cc,w11,w12,w13⟩
end Go.Den.L4

/- Draws: a core and a text for it. -/
namespace Go.Den.L4
open Go
theorem bytes_le {x:List (List D)} {B:Nat} (hx:x.length≤B):(⟨(bytesD x).toArray⟩:ByteArray).size≤B:=by
 show (bytesD x).toArray.size≤B
 rw [List.size_toArray]
 have:=bytesD_le x
 omega
/-- What a drawn core and its text fulfil. -/
abbrev CS (o:Rs):Prop:=CW o∧(asS (resC o 1 0)).size≤1700
theorem dp_loop {l20:List (List D)} {s21 s22:ByteArray} {b24:Bool} {n26 n27 n28 n29 n30 n31 n32 n33 n34:Int} {l35:List (List D)} {n36 n37:Int} {q1:Bool→List (List D)→Rs} {n23:Int} {Q:Rs→Prop} (hn:n23≤1601)
  (hq:∀b (x:List (List D)),x.length≤1601→isBytes x=true→Q (q1 b x)) :
  ∀(k m:Nat) (v:SV) (x:List (List D)),1601 - x.length≤k→k < m→x.length≤1601→isBytes x=true→Q (la10o1 t14 t15 t16 t17 t28 t29 l20 s21 s22 n23 b24 n26 n27 n28 n29 n30 n31 n32 n33 n34 l35 n36 n37 q1 m v x):=by
 intro k
 induction k with
 | zero =>
  intro m v x hk hm hx hb
  obtain ⟨m,rfl⟩:∃m',m=m' + 1:=⟨m - 1,by omega⟩
  have c:decide ((x.length:Int) < n23)=false:=decide_eq_false (by omega)
  simp only [la10o1,c,Bool.false_eq_true,if_false]
  exact hq _ _ hx hb
 | succ k ih =>
  intro m v x hk hm hx hb
  obtain ⟨m,rfl⟩:∃m',m=m' + 1:=⟨m - 1,by omega⟩
  by_cases g:(x.length:Int) < n23
  ·have ef:flatR 1 [[D.i .u8 (99:Int)]]=true:=rfl
   have el:decide (x.length + [[D.i .u8 (99:Int)]].length≤lim)=true:=decide_eq_true (by simp only [List.length_singleton];unfold lim;omega)
   simp only [la10o1,decide_eq_true g,if_true,ef,el,Bool.and_self,chk_true]
   exact ih m _ _ (by simp;omega) (by omega) (by simp;omega) (isBytes_app hb rfl)
  ·simp only [la10o1,decide_eq_false g,Bool.false_eq_true,if_false]
   exact hq _ _ hx hb
theorem n10 (l1:List (List D)) (hl:l1.length≤1048576) (ht:∀r∈l1,typL [.i .u8] r):PQ zr10 zo10 CS (t10 l1):=by
 unfold t10 ta10
 obtain ⟨a0,c0,-⟩:=n14 l1 hl ht
 have as_:=n16 l1 20
 refine pq_chk a0 ?_
 extract_lets +onlyGivenNames -underBinder lc y3
 have c0:Cu lc (asI (resC (t14 l1) 0 1)):=c0
 obtain ⟨a3,c3,s3,-⟩:=d28 c0 (asI (resC (t14 l1) 0 2)) 10 (by decide)
 have a3:okR zr28 zo28 y3=true:=a3
 have c3:Cu lc (asI (outC y3 0 1)):=c3
 have s3:(asS (resC y3 0 0)).size≤1000:=s3
 clear_value y3
 refine pq_chk a3 ?_
 extract_lets +onlyGivenNames -underBinder y4
 obtain ⟨a4,c4,-⟩:=d17 c3 (asI (outC y3 0 2)) 20
 have a4:okR zr17 zo17 y4=true:=a4
 have c4:Cu lc (asI (outC y4 0 1)):=c4
 clear_value y4
 refine pq_chk a4 ?_
 extract_lets +onlyGivenNames -underBinder y5
 refine pq_ite (fun _=>?_) (fun _=>?_)
 ·extract_lets +onlyGivenNames -underBinder z1 z2 y7
  obtain ⟨a5,c5,b5,-⟩:=d29 c4 (asI (outC y4 0 2)) 2
  have a5:okR zr29 zo29 y7=true:=a5
  have c5:Cu lc (asI (outC y7 0 1)):=c5
  have b5:0≤asI (resC y7 0 0)∧asI (resC y7 0 0)≤4294967295∧((0:Int) < 2→asI (resC y7 0 0) < 2):=b5
  clear_value y7
  have b6:=b5.2.2 (by decide)
  have e6:=w64_in (1600+asI (resC y7 0 0)) (by omega)
  refine pq_chk a5 ?_
  extract_lets +onlyGivenNames -underBinder z3 z4 z5
  refine dp_loop (by rw [e6];omega) (fun b x hx hb=>?_) 1601 KK _ [] (Nat.sub_le _ _) (by rw [KK_eq];omega) (Nat.zero_le _) rfl
  obtain ⟨a6,c6,w⟩:=d15 c5 (asI (outC y7 0 2)) (asI (resC (t16 l1 20) 0 0))
  refine pq_chk hb (pq_chk as_ (pq_chk a6 ⟨rfl,w,?_⟩))
  have:=bytes_le hx
  show (⟨(bytesD x).toArray⟩:ByteArray).size≤1700
  omega
 ·obtain ⟨a6,c6,w⟩:=d15 c4 (asI (outC y4 0 2)) (asI (resC (t16 l1 20) 0 0))
  exact pq_chk as_ (pq_chk a6 ⟨rfl,w,by show (asS (resC y3 0 0)).size≤1700;omega⟩)
end Go.Den.L4

/- What grows: a leader's log, and how many have it. -/
namespace Go.Den.L4
open Go
theorem getD_left {l:List (List D)} (r:List D) {i:Nat} (h:i < l.length):(l++[r]).getD i []=l.getD i []:=by
 rw [List.getD_eq_getElem?_getD,List.getElem?_append_left h,←List.getD_eq_getElem?_getD]
theorem getD_last (l:List (List D)) (r:List D):(l++[r]).getD l.length []=r:=by
 rw [List.getD_eq_getElem?_getD,List.getElem?_append_right (Nat.le_refl _),Nat.sub_self];rfl
theorem runB_snoc (l:List (List D)) (t:Int) (s:ByteArray) (hs:(s.size:Int)≤1600):∀(k i:Nat) (p:Int),i+k=l.length→p≤t→runB l t k i p=true→runB (l++[[.i .i64 t,.s s]]) t (k+1) i p=true
 | 0,i,p,e,hp,_=>by
  have e:i=l.length:=by omega
  subst e
  simp only [runB,getD_last,nthD,asI,asS,Bool.and_true,decide_eq_true_eq]
  exact ⟨hp,Int.le_refl _,hs⟩
 | k+1,i,p,e,hp,h=>by
  rw [runB] at h ⊢
  rw [getD_left _ (by omega)]
  simp only [Bool.and_eq_true,decide_eq_true_eq] at h ⊢
  exact ⟨h.1,runB_snoc l t s hs k (i+1) _ (by omega) h.1.2.1 h.2⟩
theorem allB_mk {f:Nat→Bool}:∀(k i:Nat),(∀p,i≤p→p < i+k→f p=true)→allB f k i=true
 | 0,_,_=>rfl
 | k+1,i,h=>by
  rw [allB,h i (Nat.le_refl _) (by omega),Bool.true_and]
  exact allB_mk k (i+1) fun p h1 h2=>h p (by omega) (by omega)
/-- One who leads, in plain words. -/
structure LD (id:Nat) (n2 n3 n7 n8:Int) (L:List (List D)) (c:Int) (X M:List (List D)):Prop where
 p:1≤n2∧n2≤5
 i:(id:Int) < n2
 t:1≤n3∧n3≤100000
 q:0≤n7∧n7+(L.length:Int)≤100000
 k:keptB n3 (id:Int) n7 n8 ⟨#[]⟩ L=true
 c:n7≤c∧c≤n7+(L.length:Int)
 z:¬ (n7=0∧n8≠0)
 x:(X.length:Int)=n2
 m:(M.length:Int)=n2
 tx:∀r∈X,typL shInt r
 tm:∀r∈M,typL shInt r
 tl:∀r∈L,typL shEntry r
 l:L.length≤60
 o:xI M id=n7+(L.length:Int)
 r:∀p,p < X.length→xI X p≤n7+(L.length:Int)+1∧0≤xI M p∧xI M p < xI X p
theorem LD.core {id:Nat} {n2 n3 n7 n8:Int} {L:List (List D)} {c:Int} {X M:List (List D)} (h:LD id n2 n3 n7 n8 L c X M):coreB (id:Int) n2 n3 (id:Int) 3 (id:Int) n7 n8 L c [] X M=true:=by
 obtain ⟨p,i,t,q,k,hc,z,x,m,tx,tm,tl,hl,o,r⟩:=h
 unfold coreB
 rw [k,w64_in (n7+(L.length:Int)) (by omega)]
 simp only [Bool.and_eq_true,decide_eq_true_eq,Bool.true_and]
 refine ⟨⟨p.1,p.2,by omega,by omega,z⟩,⟨i,hc⟩,?_⟩
 unfold roleB
 rw [if_neg (by decide),if_neg (by decide),if_pos rfl,w64_in (n7+(L.length:Int)) (by omega)]
 simp only [Bool.and_eq_true,decide_eq_true_eq,Int.toNat_natCast]
 refine ⟨⟨t.1,trivial,trivial,rfl,x,m⟩,o,allB_mk _ _ fun p _ hp=>?_⟩
 have:=r p (by omega)
 unfold leadF
 rw [w64_in _ (by omega)]
 exact decide_eq_true ⟨this.2.1,this.2.2,this.1⟩
theorem LD.of {n1 n2 n3 n4 n6 n7 n8:Int} {l9:List (List D)} {n10:Int} {l11 l12 l13:List (List D)} (he:∀r∈l9,typL shEntry r) (h2:∀r∈l12,typL shInt r) (h3:∀r∈l13,typL shInt r) (h:coreB n1 n2 n3 n4 3 n6 n7 n8 l9 n10 l11 l12 l13=true) :
  LD n1.toNat n2 n3 n7 n8 l9 n10 l12 l13∧n1=(n1.toNat:Int)∧n4=n1∧n6=n1∧l11=[]:=by
 obtain ⟨b1,b2,b3⟩:=lead_more h
 obtain ⟨a1,a2,a3,a4,a5,a6,a7,a8,a9,a10,a11,a12,a13,a14⟩:=coreB_more h
 unfold roleB at a14
 rw [if_neg (by decide),if_neg (by decide),if_pos rfl,w64_in (n7+(l9.length:Int)) (by omega)] at a14
 simp only [Bool.and_eq_true,decide_eq_true_eq] at a14
 obtain ⟨⟨c1,c2,c3,c4,c5,c6⟩,o,_⟩:=a14
 have e1:n1=(n1.toNat:Int):=by omega
 unfold coreB at h
 simp only [Bool.and_eq_true,decide_eq_true_eq] at h
 obtain ⟨d1,d2,d3,d4⟩:=h
 have d2:keptB n3 (n1.toNat:Int) n7 n8 ⟨#[]⟩ l9=true:=by rw [←e1,←c2];exact d2
 exact ⟨⟨⟨a1,a2⟩,by omega,⟨c1,a6⟩,⟨a10,a9⟩,d2,⟨a11,a12⟩,d1.2.2.2.2,b1,b2,h2,h3,he,by omega,o,b3⟩,e1,c2,c3,List.eq_nil_of_length_eq_zero c4⟩
/-- Behind what it takes up. -/
theorem LD.grow {id:Nat} {n2 n3 n7 n8:Int} {L:List (List D)} {c:Int} {X M:List (List D)} (h:LD id n2 n3 n7 n8 L c X M) {s:ByteArray} (hs:(s.size:Int)≤1600) (hr:(L.length:Int) < 60∧n7+(L.length:Int) < 100000) {c':Int} (hc':n7≤c'∧c'≤n7+(L.length:Int)+1) :
  LD id n2 n3 n7 n8 (L++[[.i .i64 n3,.s s]]) c' (stR X id 0 [.i .i64 (n7+(L.length:Int)+1+1)]) (stR M id 0 [.i .i64 (n7+(L.length:Int)+1)]):=by
 obtain ⟨p,i,t,q,k,hc,z,x,m,tx,tm,tl,hl,o,r⟩:=h
 have e:((L++[[D.i .i64 n3,.s s]]).length:Int)=(L.length:Int)+1:=by simp
 obtain ⟨u1,u2,u3⟩:=stR_int tx id (n7+(L.length:Int)+1+1) (by omega)
 obtain ⟨v1,v2,v3⟩:=stR_int tm id (n7+(L.length:Int)+1) (by omega)
 have k':keptB n3 (id:Int) n7 n8 ⟨#[]⟩ (L++[[D.i .i64 n3,.s s]])=true:=by
  unfold keptB keptA at k ⊢
  rw [e]
  simp only [Bool.and_eq_true,decide_eq_true_eq] at k ⊢
  obtain ⟨⟨k1,k2⟩,k3⟩:=k
  refine ⟨⟨⟨k1.1,k1.2.1,k1.2.2.1,k1.2.2.2.1,k1.2.2.2.2.1,k1.2.2.2.2.2.1,k1.2.2.2.2.2.2.1,by omega,?_⟩,k2⟩,?_⟩
  ·rw [w64_in _ (by omega)];omega
  ·rw [show (L++[[D.i .i64 n3,.s s]]).length=L.length+1 by simp]
   refine runB_snoc L n3 s hs L.length 0 _ (by omega) ?_ k3
   unfold mx
   split<;>omega
 refine ⟨p,i,t,⟨q.1,by omega⟩,k',⟨hc'.1,by omega⟩,z,by rw [u1];exact x,by rw [v1];exact m,u2,v2,fun w hw=>?_,by simp;omega,?_,fun w hw=>?_⟩
 ·rcases List.mem_append.1 hw with hw | hw
  ·exact tl w hw
  ·rw [List.mem_singleton] at hw;subst hw
   exact ⟨_,_,rfl,int_typ (by omega),_,_,rfl,⟨_,rfl,by unfold maxLen;omega⟩,rfl⟩
 ·rw [v3 id (by omega),if_pos rfl];omega
 ·rw [u1] at hw
  have:=r w hw
  rw [u3 w hw,v3 w (by omega)]
  split<;>omega
/-- Behind the word of one more. -/
theorem LD.told {id:Nat} {n2 n3 n7 n8:Int} {L:List (List D)} {c:Int} {X M:List (List D)} (h:LD id n2 n3 n7 n8 L c X M) (i:Nat) {c':Int} (hc':n7≤c'∧c'≤n7+(L.length:Int)) :
  LD id n2 n3 n7 n8 L c' (stR X i 0 [.i .i64 (n7+(L.length:Int)+1)]) (stR M i 0 [.i .i64 (n7+(L.length:Int))]):=by
 obtain ⟨p,hi,t,q,k,hc,z,x,m,tx,tm,tl,hl,o,r⟩:=h
 obtain ⟨u1,u2,u3⟩:=stR_int tx i (n7+(L.length:Int)+1) (by omega)
 obtain ⟨v1,v2,v3⟩:=stR_int tm i (n7+(L.length:Int)) (by omega)
 refine ⟨p,hi,t,q,k,hc',z,by rw [u1];exact x,by rw [v1];exact m,u2,v2,tl,hl,?_,fun w hw=>?_⟩
 ·rw [v3 id (by omega)]
  split
  ·rfl
  ·exact o
 ·rw [u1] at hw
  have:=r w hw
  rw [u3 w hw,v3 w (by omega)]
  split<;>omega
/-- How many have it, where those before i and one more do. -/
theorem many_cnt {M:List (List D)} {n:Int} {i id N:Nat} (hi:i≤N) (hid:id < N) (h:∀q,q < N→(xI M q ≥ n↔q < i∨q=id)):∀k p,p+k=N→many M n k p=((i - p:Nat):Int)+(if i≤id∧p≤id then 1 else 0)
 | 0,p,e=>by
  rw [many,if_neg (by omega)]
  omega
 | k+1,p,e=>by
  rw [many,many_cnt hi hid h k (p+1) (by omega)]
  have:=h p (by omega)
  by_cases g:xI M p ≥ n
  ·rw [if_pos g]
   have:=this.1 g
   split<;>split<;>omega
  ·rw [if_neg g]
   have g':¬ (p < i∨p=id):=fun w=>g (this.2 w)
   split<;>split<;>omega
/-- What it counts: the last one, where most have it. -/
theorem com_last {n2 n3 n7 n8:Int} {l9:List (List D)} {n10:Int} {M:List (List D)} {n:Int} (hn:n10 < n) (ht:trm n7 n8 l9 n=n3):com n2 n3 n7 n8 l9 n10 M (n - n10).toNat=n↔2 * many M n M.length 0 > n2:=by
 obtain ⟨k,hk⟩:∃k:Nat,n=n10+((k+1:Nat):Int):=⟨(n - n10).toNat - 1,by omega⟩
 rw [show (n - n10).toNat=k+1 by omega,com,←hk]
 have:=com_in n2 n3 n7 n8 l9 n10 M k
 constructor
 ·intro e
  by_cases g:2 * many M n M.length 0 > n2
  ·exact g
  ·rw [if_neg (fun w=>g w.2)] at e;omega
 ·intro g
  rw [if_pos ⟨ht,g⟩]
end Go.Den.L4

/- A leader who is told that one more has it. -/
namespace Go.Den.L4
open Go
theorem apped_impl {id:Nat} {n2 n3 n7 n8:Int} {G:List (List D)} {c:Int} {X M:List (List D)} (L:LD id n2 n3 n7 n8 G c X M) (i:Nat) (hi:(i:Int) < n2) (hM:xI M i < n7+(G.length:Int)) :
  t53 (id:Int) n2 n3 (id:Int) 3 (id:Int) n7 n8 G c [] X M 4 (i:Int) (id:Int) n3 (n7+(G.length:Int)) 0 0 true [] ⟨#[]⟩=some ([.one (.l [])],[[.i .i64 (id:Int),.i .i64 n2,.i .i64 n3,.i .i64 (id:Int),.i .i64 3,.i .i64 (id:Int),.i .i64 n7,.i .i64 n8,.l G,.i .i64 (com n2 n3 n7 n8 G c (stR M i 0 [.i .i64 (n7+(G.length:Int))]) (n7+(G.length:Int) - c).toNat),.l [],.l (stR X i 0 [.i .i64 (n7+(G.length:Int)+1)]),.l (stR M i 0 [.i .i64 (n7+(G.length:Int))])]]):=by
 obtain ⟨p,hid,ht,q,k,hc,z,x,m,tx,tm,tl,hl,o,r⟩:=L
 obtain ⟨u1,u2,u3⟩:=stR_int tx i (n7+(G.length:Int)+1) (by omega)
 obtain ⟨v1,v2,v3⟩:=stR_int tm i (n7+(G.length:Int)) (by omega)
 have hX:i < X.length:=by omega
 have hMl:i < M.length:=by omega
 have ew1:∀x,okR zr43 zo43 (some ([.one (.i .i64 x)],[]))=true:=fun _=>rfl
 have ei:∀x,asI (resC (some ([.one (.i .i64 x)],[])) 0 0)=x:=fun _=>rfl
 have q0:((3:Int) != 3)=false:=rfl
 obtain ⟨a,ea⟩:=Int_row (getD_row tm hMl)
 have ez:(decide (1≤(M.getD i []).length)&&isF z3 0 (M.getD i []))=true:=by rw [ea];rfl
 have ex:decide (n7+(G.length:Int)≤asI (nthD (M.getD i []) 0))=false:=decide_eq_false (by unfold xI at hM;omega)
 have d2:decide (1≤1∧i < X.length)=true:=decide_eq_true ⟨Nat.le_refl _,hX⟩
 have d3:decide (1≤1∧i < M.length)=true:=decide_eq_true ⟨Nat.le_refl _,hMl⟩
 have k2:=count_impl (id:Int) n2 n3 (id:Int) 3 (id:Int) n7 n8 G c [] (stR X i 0 [.i .i64 (n7+(G.length:Int)+1)]) (stR M i 0 [.i .i64 (n7+(G.length:Int))]) tl (by omega) (by omega) hc.1 hc.2 v2 (by rw [v1];exact m) (by rw [v1];omega)
 have w2:∀a b c d,okR zr58 zo58 (some ([],[[.i .i64 (id:Int),.i .i64 n2,.i .i64 n3,.i .i64 (id:Int),.i .i64 3,.i .i64 (id:Int),.i .i64 n7,.i .i64 n8,.l G,.i .i64 a,.l b,.l c,.l d]]))=true:=fun _ _ _ _=>rfl
 have hx3:=u3 i hX
 rw [if_pos rfl] at hx3
 generalize hX':stR X i 0 [.i .i64 (n7+(G.length:Int)+1)]=X' at *
 generalize hM':stR M i 0 [.i .i64 (n7+(G.length:Int))]=M' at *
 have hXl:i < X'.length:=by omega
 obtain ⟨b,eb⟩:=Int_row (getD_row u2 hXl)
 have ez2:(decide (1≤(X'.getD i []).length)&&isF z3 0 (X'.getD i []))=true:=by rw [eb];rfl
 have ex2:decide (asI (nthD (X'.getD i []) 0)≤n7+(G.length:Int))=false:=decide_eq_false (by unfold xI at hx3;omega)
 have ex3:=ex2
 unfold t53 ta53
 simp only [last_impl,w64_in (n7+(G.length:Int)) (by omega),ew1,ei,q0,nat_in hX,nat_in hMl,nat_pos,Int.toNat_natCast,ez,ite_self,ex,d2,d3,w64_in (n7+(G.length:Int)+1) (by omega),hX',hM',Bool.and_self,Bool.false_eq_true,if_false,if_true,chk_true]
 rw [k2]
 simp only [w2,chk_true,outC,nthO,nthD,asI,asL] at ez2 ex2 ⊢
 simp only [nat_in hXl,nat_pos,ez2,Bool.and_self,chk_true,last_impl,w64_in (n7+(G.length:Int)) (by omega),ew1]
 exact if_neg (fun hh=>by cases hh.symm.trans ex3)
theorem told_msg {f id T n:Int} (hf:0≤f∧f≤4) (hid:0≤id∧id≤4) (hne:f≠id) (hT:1≤T∧T≤100000) (hn:0≤n∧n≤100000):msgOk 4 f id T n 0 0 true [] ⟨#[]⟩=true:=by
 unfold msgOk
 rw [if_neg (by decide),if_neg (by decide),if_neg (by decide),if_pos rfl]
 have hb:(f != id)=true:=by simpa using hne
 rw [decide_eq_true hf.1,decide_eq_true hf.2,decide_eq_true hid.1,decide_eq_true hid.2,hb,decide_eq_true hT.1,decide_eq_true hT.2,decide_eq_true ⟨hn.1,hn.2,rfl,rfl,rfl,by decide⟩]
 rfl
theorem hear_told {id:Nat} {n2 n3 n7 n8:Int} {G:List (List D)} {c:Int} {X M:List (List D)} (L:LD id n2 n3 n7 n8 G c X M) (i:Nat) (hi:(i:Int) < n2) (hne:i≠id) (hM:xI M i < n7+(G.length:Int)) :
  t9 (id:Int) n2 n3 (id:Int) 3 (id:Int) n7 n8 G c [] X M 4 (i:Int) (id:Int) n3 (n7+(G.length:Int)) 0 0 true [] ⟨#[]⟩=some ([.agg [.i .i64 (id:Int),.i .i64 n2,.i .i64 n3,.i .i64 (id:Int),.i .i64 3,.i .i64 (id:Int),.i .i64 n7,.i .i64 n8,.l G,.i .i64 (com n2 n3 n7 n8 G c (stR M i 0 [.i .i64 (n7+(G.length:Int))]) (n7+(G.length:Int) - c).toNat),.l [],.l (stR X i 0 [.i .i64 (n7+(G.length:Int)+1)]),.l (stR M i 0 [.i .i64 (n7+(G.length:Int))])],.one (.l [])],[]):=by
 have nn:∀q∈([]:List (List D)),typL shInt q:=fun q h=>by cases h
 have n0:([]:List (List D)).length≤1048576:=Nat.zero_le _
 have hap:=apped_impl L i hi hM
 have hB:=L.core
 obtain ⟨p,hid,ht,q,k,hc,z,x,m,tx,tm,tl,hl,o,r⟩:=L
 have hk:=told_msg (f:=(i:Int)) (id:=(id:Int)) (T:=n3) (n:=n7+(G.length:Int)) ⟨by omega,by omega⟩ ⟨by omega,by omega⟩ (by omega) ht ⟨by omega,by omega⟩
 have hkI:=msgOk_impl 4 (i:Int) (id:Int) n3 (n7+(G.length:Int)) 0 0 true [] ⟨#[]⟩ (Nat.zero_le _) (fun r h=>by cases h)
 rw [hk] at hkI
 have ew1:∀x,okR zr25 zo25 (some ([.one (.b x)],[]))=true:=fun _=>rfl
 have ew2:∀x,okR zr47 zo47 (some ([.one (.b x)],[]))=true:=fun _=>rfl
 have eb:∀x,asB (resC (some ([.one (.b x)],[])) 0 0)=x:=fun _=>rfl
 have w1:okR zr26 zo26 (some ([.agg [.i .i64 (id:Int),.i .i64 n2,.i .i64 n3,.i .i64 (id:Int),.i .i64 3,.i .i64 (id:Int),.i .i64 n7,.i .i64 n8,.l G,.i .i64 c,.l [],.l X,.l M]],[]))=true:=rfl
 have d1:decide ((i:Int) ≥ n2)=false:=decide_eq_false (by omega)
 have d2:decide (n3 < n3)=false:=decide_eq_false (by omega)
 have d3:decide (n3 > n3)=false:=decide_eq_false (by omega)
 generalize com n2 n3 n7 n8 G c (stR M i 0 [.i .i64 (n7+(G.length:Int))]) (n7+(G.length:Int) - c).toNat=c' at *
 generalize stR X i 0 [.i .i64 (n7+(G.length:Int)+1)]=X' at *
 generalize stR M i 0 [.i .i64 (n7+(G.length:Int))]=M' at *
 have wv:okR zr53 zo53 (some ([.one (.l [])],[[.i .i64 (id:Int),.i .i64 n2,.i .i64 n3,.i .i64 (id:Int),.i .i64 3,.i .i64 (id:Int),.i .i64 n7,.i .i64 n8,.l G,.i .i64 c',.l [],.l X',.l M']]))=true:=rfl
 have wh:okR zr27 zo27 (some ([.one (.l [])],[[.i .i64 (id:Int),.i .i64 n2,.i .i64 n3,.i .i64 (id:Int),.i .i64 3,.i .i64 (id:Int),.i .i64 n7,.i .i64 n8,.l G,.i .i64 c',.l [],.l X',.l M']]))=true:=rfl
 have hh:t27 (id:Int) n2 n3 (id:Int) 3 (id:Int) n7 n8 G c [] X M 4 (i:Int) (id:Int) n3 (n7+(G.length:Int)) 0 0 true [] ⟨#[]⟩=some ([.one (.l [])],[[.i .i64 (id:Int),.i .i64 n2,.i .i64 n3,.i .i64 (id:Int),.i .i64 3,.i .i64 (id:Int),.i .i64 n7,.i .i64 n8,.l G,.i .i64 c',.l [],.l X',.l M']]):=by
  have q1:((4:Int)==1)=false:=rfl
  have q2:((4:Int)==2)=false:=rfl
  have q3:((4:Int)==3)=false:=rfl
  unfold t27 ta27
  rw [hkI]
  simp only [ew2,chk_true,eb,Bool.not_true,bne_self_eq_false,d1,d2,d3,q1,q2,q3,Bool.or_self,Bool.false_eq_true,if_false,BEq.rfl,if_true]
  rw [hap]
  simp only [wv,chk_true]
  rfl
 unfold t9 ta9
 rw [core_impl _ _ _ _ _ _ _ _ G _ [] X M (by omega) tl n0 nn (by omega) tx (by omega) tm,copy_impl (id:Int) n2 n3 (id:Int) 3 (id:Int) n7 n8 G c [] X M (by omega) tl n0 nn (by omega) tx (by omega) tm]
 simp only [ew1,w1,chk_true,eb,hB,Bool.not_true,Bool.false_eq_true,if_false,resC,nthR,cellsDV,nthD,asI,asL]
 rw [hh]
 simp only [wh,chk_true]
 rfl
end Go.Den.L4

/- The law of what grows. -/
namespace Go.Den.L4
open Go
theorem same_loop {b10 b12:Bool} {q1:Int→Bool→Bool→Rs} {q2:Int→Bool→SV→Rs} {R:Rs} {l:List (List D)} (h:∀r∈l,typL shEntry r) (wl:l.length≤1048576) (hq:∀n b v,q2 n b v=R):∀(c i m:Nat) (v w:SV),i+c=l.length→c < m→l13o1 l l b10 b12 q1 q2 m (i:Int) v w=R:=by
 intro c
 induction c with
 | zero =>
  intro i m v w e hm
  obtain ⟨m,rfl⟩:∃m',m=m' + 1:=⟨m - 1,by omega⟩
  have e1:decide ((i:Int) < (l.length:Int))=false:=decide_eq_false (by omega)
  simp only [l13o1,e1,Bool.false_eq_true,if_false]
  exact hq _ _ _
 | succ c ih =>
  intro i m v w e hm
  obtain ⟨m,rfl⟩:∃m',m=m' + 1:=⟨m - 1,by omega⟩
  have hi:i < l.length:=by omega
  have ez:=row_in h _ entry_row i hi
  simp only [l13o1,nat_in hi,nat_pos,Int.toNat_natCast,ez,Bool.and_self,chk_true,if_true,BEq.rfl,Bool.not_true,Bool.false_eq_true,if_false]
  rw [w64_succ i (by omega)]
  exact ih (i+1) m _ _ (by omega) (by omega)
theorem same_self (l:List (List D)) (h:∀r∈l,typL shEntry r) (wl:l.length≤1048576):t13 l l=some ([.one (.b true)],[]):=by
 unfold t13
 rw [bne_self_eq_false,if_neg (by decide)]
 exact same_loop h wl (fun _ _ _=>rfl) l.length 0 KK _ _ (by omega) (by rw [KK_eq];omega)
/-- How many others stand before i. -/
def ans (i id:Nat):Nat:=if id < i then i - 1 else i
theorem grow_loop {l55:List (List D)} {b56:Bool} {s57:ByteArray} {n58 n59:Int} {b62 b63 b64 b65 b66:Bool} {n70 n71 n72 n73 n74 n75 n76 n77 n78 n88 n89 n90 n91 n92 n93 n94 n95 n96:Int} {l97 l98 l99 l100 l101 l102 l107 l108 l109 l110:List (List D)} {q1:Int→Int→Bool→Bool→Bool→Int→Int→Int→Int→Int→Int→Int→Int→Int→List (List D)→List (List D)→List (List D)→List (List D)→Rs} {q2:Int→Int→Bool→SV→SV→Int→Int→Int→Int→Int→Int→Int→Int→Int→List (List D)→List (List D)→List (List D)→List (List D)→Rs} {R:Rs} {id:Nat} {n2 n3 n7 n8:Int} {G:List (List D)} (h58:n58=n7+(G.length:Int)) (h70:n70=(id:Int)) (h71:n71=n2) (h72:n72=n3) (ht:trm n7 n8 G (n7+(G.length:Int))=n3)
  (hq:∀(a b:Int) (c:Bool) (v w:SV) (a0 a1 a2 a3 a4 a5 a6 a7:Int) (x y z u:List (List D)),q2 a b c v w a0 a1 a2 a3 a4 a5 a6 a7 (n7+(G.length:Int)) x y z u=R) :
  ∀(f i m:Nat) (c:Int) (X M:List (List D)) (v1 v2 v3:SV),((i+f:Nat):Int)=n2→f < m→LD id n2 n3 n7 n8 G c X M→(c=n7+(G.length:Int)↔2 * ((ans i id+1:Nat):Int) > n2)→(∀q:Nat,(q:Int) < n2→(xI M q ≥ n7+(G.length:Int)↔q < i∨q=id)) →
   la4o5 t5 t9 t10 t11 t12 t13 l55 b56 s57 n58 n59 b62 b63 b64 b65 b66 n70 n71 n72 n73 n74 n75 n76 n77 n78 n88 n89 n90 n91 n92 n93 n94 n95 n96 l97 l98 l99 l100 l101 l102 l107 l108 l109 l110 q1 q2 m ((ans i id+1:Nat):Int) (i:Int) v1 v2 v3 (id:Int) n2 n3 (id:Int) 3 (id:Int) n7 n8 c G [] X M=R:=by
 subst h58 h70 h71 h72
 intro f
 induction f with
 | zero =>
  intro i m c X M v1 v2 v3 e hm L hc hM
  obtain ⟨m,rfl⟩:∃m',m=m' + 1:=⟨m - 1,by omega⟩
  have hp:=L.p
  have hid:=L.i
  have ha:ans i id=i - 1:=by unfold ans;rw [if_pos (by omega)]
  have e1:decide ((i:Int) < n71)=false:=decide_eq_false (by omega)
  have ec:=hc.2 (by omega)
  simp only [la4o5,e1,Bool.false_and,Bool.false_eq_true,if_false]
  rw [ec]
  exact hq _ _ _ _ _ _ _ _ _ _ _ _ _ _ _ _ _
 | succ f ih =>
  intro i m c X M v1 v2 v3 e hm L hc hM
  obtain ⟨m,rfl⟩:∃m',m=m' + 1:=⟨m - 1,by omega⟩
  have hp:=L.p
  have hid:=L.i
  have hle:ans i id≤i:=by unfold ans;split<;>omega
  have e1:decide ((i:Int) < n71)=true:=decide_eq_true (by omega)
  have ew:w64 (2 * ((ans i id+1:Nat):Int))=2 * ((ans i id+1:Nat):Int):=w64_in _ (by omega)
  by_cases g:2 * ((ans i id+1:Nat):Int)≤n71
  ·have e2:decide (2 * ((ans i id+1:Nat):Int)≤n71)=true:=decide_eq_true g
   by_cases gi:i=id
   ·have e3:((i:Int)==(id:Int))=true:=by simp only [beq_iff_eq];omega
    have ea:ans (i+1) id=ans i id:=by unfold ans;rw [if_pos (by omega),if_neg (by omega)];omega
    simp only [la4o5,e1,ew,e2,e3,Bool.and_self,if_true]
    rw [w64_succ i (by omega)]
    have ih':=fun v1 v2 v3=>ih (i+1) m c X M v1 v2 v3 (by omega) (by omega) L (by rw [ea];exact hc) (fun q hq=>by rw [hM q hq];omega)
    rw [ea] at ih'
    exact ih' _ _ _
   ·have e3:((i:Int)==(id:Int))=false:=by simp only [beq_eq_false_iff_ne,ne_eq];omega
    have hcn:c≠n7+(G.length:Int):=fun w=>by have:=hc.1 w;omega
    have e4:(c==n7+(G.length:Int))=false:=by simpa using hcn
    have hL:=L.c
    have ea:ans (i+1) id=ans i id+1:=by unfold ans;split<;>split<;>omega
    have hMi:xI M i < n7+(G.length:Int):=by
     have:=(hM i (by omega)).1
     omega
    have H:=hear_told L i (by omega) gi hMi
    obtain ⟨u1,u2,u3⟩:=stR_int L.tm i (n7+(G.length:Int)) (by have:=L.q;omega)
    have hmm:=L.m
    have hM':∀q:Nat,(q:Int) < n71→(xI (stR M i 0 [.i .i64 (n7+(G.length:Int))]) q ≥ n7+(G.length:Int)↔q < i+1∨q=id):=fun q hq=>by
     rw [u3 q (by omega)]
     have:=hM q hq
     split<;>omega
    have hcl:=com_last (n2:=n71) (n3:=n72) (n7:=n7) (n8:=n8) (l9:=G) (n10:=c) (M:=stR M i 0 [.i .i64 (n7+(G.length:Int))]) (n:=n7+(G.length:Int)) (by omega) ht
    rw [many_cnt (i:=i+1) (id:=id) (N:=(stR M i 0 [.i .i64 (n7+(G.length:Int))]).length) (by omega) (by omega) (fun q hq=>hM' q (by omega)) _ 0 (by omega)] at hcl
    have hcom:=com_in n71 n72 n7 n8 G c (stR M i 0 [.i .i64 (n7+(G.length:Int))]) (n7+(G.length:Int) - c).toNat
    have L':=L.told i (c':=com n71 n72 n7 n8 G c (stR M i 0 [.i .i64 (n7+(G.length:Int))]) (n7+(G.length:Int) - c).toNat) ⟨by omega,by omega⟩
    generalize com n71 n72 n7 n8 G c (stR M i 0 [.i .i64 (n7+(G.length:Int))]) (n7+(G.length:Int) - c).toNat=c' at *
    generalize stR X i 0 [.i .i64 (n7+(G.length:Int)+1)]=X' at *
    generalize stR M i 0 [.i .i64 (n7+(G.length:Int))]=M' at *
    have wh:okR zr9 zo9 (some ([.agg [.i .i64 (id:Int),.i .i64 n71,.i .i64 n72,.i .i64 (id:Int),.i .i64 3,.i .i64 (id:Int),.i .i64 n7,.i .i64 n8,.l G,.i .i64 c',.l [],.l X',.l M'],.one (.l [])],[]))=true:=rfl
    simp only [la4o5,e1,ew,e2,e3,e4,H,wh,chk_true,Bool.and_self,Bool.false_eq_true,if_false,if_true]
    rw [w64_succ i (by omega),w64_succ (ans i id+1) (by omega)]
    have ih':=fun v1 v2 v3=>ih (i+1) m c' X' M' v1 v2 v3 (by omega) (by omega) L' (by rw [hcl,ea];unfold ans;split<;>split<;>omega) hM'
    rw [ea] at ih'
    exact ih' _ _ _
  ·have e2:decide (2 * ((ans i id+1:Nat):Int)≤n71)=false:=decide_eq_false g
   have ec:=hc.2 (by omega)
   simp only [la4o5,e1,ew,e2,Bool.and_false,Bool.false_eq_true,if_false]
   rw [ec]
   exact hq _ _ _ _ _ _ _ _ _ _ _ _ _ _ _ _ _
end Go.Den.L4

/- The law of what grows: the end. -/
namespace Go.Den.L4
open Go
theorem prop_bad (x1 x2 x3 x4 x5 x6 x7 x8:Int) (x9:List (List D)) (x10:Int) (x11 x12 x13:List (List D)) (x14:ByteArray) (hl:x9.length≤1048576) (h:∀r∈x9,typL shEntry r) (hl1:x11.length≤1048576) (h1:∀r∈x11,typL shInt r) (hl2:x12.length≤1048576) (h2:∀r∈x12,typL shInt r) (hl3:x13.length≤1048576) (h3:∀r∈x13,typL shInt r) (hB:coreB x1 x2 x3 x4 x5 x6 x7 x8 x9 x10 x11 x12 x13=false) :
  t12 x1 x2 x3 x4 x5 x6 x7 x8 x9 x10 x11 x12 x13 x14=some ([.agg [.i .i64 0,.i .i64 0,.i .i64 0,.i .i64 0,.i .i64 0,.i .i64 0,.i .i64 0,.i .i64 0,.l [],.i .i64 0,.l [],.l [],.l []],.one (.l []),.one (.i .i64 0)],[])∧t11 x1 x2 x3 x4 x5 x6 x7 x8 x9 x10 x11 x12 x13 x14=some ([.agg [.i .i64 0,.i .i64 0,.i .i64 0,.i .i64 0,.i .i64 0,.i .i64 0,.i .i64 0,.i .i64 0,.l [],.i .i64 0,.l [],.l [],.l []],.one (.l []),.one (.i .i64 0)],[]):=by
 have ew2:∀x,okR zr7 zo7 (some ([.one (.b x)],[]))=true:=fun _=>rfl
 have ew3:∀x,okR zr25 zo25 (some ([.one (.b x)],[]))=true:=fun _=>rfl
 unfold t12 ta12 t11 ta11
 rw [core_spec _ _ _ _ _ _ _ _ x9 _ x11 x12 x13 hl h hl1 h1 hl2 h2 hl3 h3,core_impl _ _ _ _ _ _ _ _ x9 _ x11 x12 x13 hl h hl1 h1 hl2 h2 hl3 h3,copy_spec x1 x2 x3 x4 x5 x6 x7 x8 x9 x10 x11 x12 x13 hl h hl1 h1 hl2 h2 hl3 h3,copy_impl x1 x2 x3 x4 x5 x6 x7 x8 x9 x10 x11 x12 x13 hl h hl1 h1 hl2 h2 hl3 h3]
 simp only [ew2,ew3,chk_true,hB]
 exact ⟨rfl,rfl⟩
theorem prop_two (x1 x2 x3 x4 x5 x6 x7 x8:Int) (x9:List (List D)) (x10:Int) (x11 x12 x13:List (List D)) (x14:ByteArray) (hl:x9.length≤1048576) (h:∀r∈x9,typL shEntry r) (hl1:x11.length≤1048576) (h1:∀r∈x11,typL shInt r) (hl2:x12.length≤1048576) (h2:∀r∈x12,typL shInt r) (hl3:x13.length≤1048576) (h3:∀r∈x13,typL shInt r) (hB:coreB x1 x2 x3 x4 x5 x6 x7 x8 x9 x10 x11 x12 x13=true) :
  (t12 x1 x2 x3 x4 x5 x6 x7 x8 x9 x10 x11 x12 x13 x14=some ([.agg [.i .i64 x1,.i .i64 x2,.i .i64 x3,.i .i64 x4,.i .i64 x5,.i .i64 x6,.i .i64 x7,.i .i64 x8,.l x9,.i .i64 x10,.l x11,.l x12,.l x13],.one (.l []),.one (.i .i64 0)],[])∧t11 x1 x2 x3 x4 x5 x6 x7 x8 x9 x10 x11 x12 x13 x14=some ([.agg [.i .i64 x1,.i .i64 x2,.i .i64 x3,.i .i64 x4,.i .i64 x5,.i .i64 x6,.i .i64 x7,.i .i64 x8,.l x9,.i .i64 x10,.l x11,.l x12,.l x13],.one (.l []),.one (.i .i64 0)],[])) ∨
  (x5=3∧(x14.size:Int)≤1600∧((x9.length:Int) < 60∧x7+(x9.length:Int) < 100000)∧∃t,t12 x1 x2 x3 x4 x5 x6 x7 x8 x9 x10 x11 x12 x13 x14=some ([.agg [.i .i64 x1,.i .i64 x2,.i .i64 x3,.i .i64 x4,.i .i64 3,.i .i64 x6,.i .i64 x7,.i .i64 x8,.l (x9++[[.i .i64 x3,.s x14]]),.i .i64 (com x2 x3 x7 x8 (x9++[[.i .i64 x3,.s x14]]) x10 (stR x13 x1.toNat 0 [.i .i64 (x7+(x9.length:Int)+1)]) (x7+(x9.length:Int)+1 - x10).toNat),.l x11,.l (stR x12 x1.toNat 0 [.i .i64 (x7+(x9.length:Int)+1+1)]),.l (stR x13 x1.toNat 0 [.i .i64 (x7+(x9.length:Int)+1)])],.one (.l t),.one (.i .i64 (x7+(x9.length:Int)+1))],[]) ∧
   t11 x1 x2 x3 x4 x5 x6 x7 x8 x9 x10 x11 x12 x13 x14=some ([.agg [.i .i64 x1,.i .i64 x2,.i .i64 x3,.i .i64 x4,.i .i64 3,.i .i64 x6,.i .i64 x7,.i .i64 x8,.l (x9++[[.i .i64 x3,.s x14]]),.i .i64 (com x2 x3 x7 x8 (x9++[[.i .i64 x3,.s x14]]) x10 (stR x13 x1.toNat 0 [.i .i64 (x7+(x9.length:Int)+1)]) (x7+(x9.length:Int)+1 - x10).toNat),.l x11,.l (stR x12 x1.toNat 0 [.i .i64 (x7+(x9.length:Int)+1+1)]),.l (stR x13 x1.toNat 0 [.i .i64 (x7+(x9.length:Int)+1)])],.one (.l t),.one (.i .i64 (x7+(x9.length:Int)+1))],[])):=by
 obtain ⟨o,-,-⟩:=core_CO h hB
 have hso:∀r∈x9,szdL shEntry r:=o.z
 have ew2:∀x,okR zr7 zo7 (some ([.one (.b x)],[]))=true:=fun _=>rfl
 have ew3:∀x,okR zr25 zo25 (some ([.one (.b x)],[]))=true:=fun _=>rfl
 have ew4:∀x,okR zr33 zo33 (some ([.one (.l x)],[]))=true:=fun _=>rfl
 have ew6:∀x,okR zr23 zo23 (some ([.one (.i .i64 x)],[]))=true:=fun _=>rfl
 have w1:okR zr31 zo31 (some ([.agg [.i .i64 x1,.i .i64 x2,.i .i64 x3,.i .i64 x4,.i .i64 x5,.i .i64 x6,.i .i64 x7,.i .i64 x8,.l x9,.i .i64 x10,.l x11,.l x12,.l x13]],[]))=true:=rfl
 have w2:okR zr26 zo26 (some ([.agg [.i .i64 x1,.i .i64 x2,.i .i64 x3,.i .i64 x4,.i .i64 x5,.i .i64 x6,.i .i64 x7,.i .i64 x8,.l x9,.i .i64 x10,.l x11,.l x12,.l x13]],[]))=true:=rfl
 obtain ⟨a1,a2,a3,a4,a5,a6,a7,a8,a9,a10,a11,a12,a13,a14⟩:=coreB_more hB
 have ls:∀(n1 n2 n3 n4 n5 n6:Int) (l11 l12 l13:List (List D)),t23 n1 n2 n3 n4 n5 n6 x7 x8 x9 x10 l11 l12 l13=some ([.one (.i .i64 (x7+(x9.length:Int)))],[]):=fun _ _ _ _ _ _ _ _ _=>by rw [last_spec,w64_in (x7+(x9.length:Int)) (by omega)]
 unfold t12 ta12 t11 ta11
 rw [core_spec _ _ _ _ _ _ _ _ x9 _ x11 x12 x13 hl h hl1 h1 hl2 h2 hl3 h3,core_impl _ _ _ _ _ _ _ _ x9 _ x11 x12 x13 hl h hl1 h1 hl2 h2 hl3 h3,copy_spec x1 x2 x3 x4 x5 x6 x7 x8 x9 x10 x11 x12 x13 hl h hl1 h1 hl2 h2 hl3 h3,copy_impl x1 x2 x3 x4 x5 x6 x7 x8 x9 x10 x11 x12 x13 hl h hl1 h1 hl2 h2 hl3 h3]
 simp only [w1,w2,ew2,ew3,chk_true,resC,nthR,cellsDV,nthD,asI,asL,asB,hB,Bool.not_true,Bool.false_eq_true,if_false,ls,ew6,Bool.true_or]
 by_cases g:x5=3∧(x14.size:Int)≤1600∧(x9.length:Int) < 60∧x7+(x9.length:Int) < 100000
 ·obtain ⟨g0,g1,g2,g3⟩:=g
  subst g0
  refine Or.inr ⟨rfl,g1,⟨g2,g3⟩,?_⟩
  obtain ⟨b1,b2,b3⟩:=lead_more hB
  have L:Led x1 x2 x3 x7 x10 x9 x12 x13 x14 x1.toNat:=⟨by omega,by omega,b1,b2,by omega,h2,h3,h,hso,by omega,by omega,by omega,by omega,by omega⟩
  have hnx:∀p,p < x12.length→xI x12 p≤x7+(x9.length:Int)+1:=fun p hp=>(b3 p hp).1
  have F:=led_fit L true hnx
  have kI:=propose_impl x1 x2 x3 x4 x6 x7 x8 x9 x10 x11 x12 x13 x14 _ L hnx ⟨g2,g3⟩ g1
  have kS:=put_spec x1 x2 x3 x4 3 x6 x7 x8 x9 x10 x11 x12 x13 x14 _ L true (by simp;omega)
  have hG:putL true x9 x3 x14=x9++[[.i .i64 x3,.s x14]]:=rfl
  have hlen:x7+((putL true x9 x3 x14).length:Int)=x7+(x9.length:Int)+1:=by rw [hG];simp;omega
  rw [hlen] at kI kS F
  rw [←hG]
  generalize putL true x9 x3 x14=G at *
  obtain ⟨u1,u2,u3⟩:=stR_int h2 x1.toNat (x7+(x9.length:Int)+1+1) (by omega)
  generalize com x2 x3 x7 x8 G x10 (stR x13 x1.toNat 0 [.i .i64 (x7+(x9.length:Int)+1)]) (x7+(x9.length:Int)+1 - x10).toNat=K at *
  have kA:=all_spec x1 x2 x3 x4 3 x6 x7 x8 G K x11 (stR x12 x1.toNat 0 [.i .i64 (x7+(x9.length:Int)+1+1)]) (stR x13 x1.toNat 0 [.i .i64 (x7+(x9.length:Int)+1)]) F x12.length b1.symm u1
  have kL:t23 x1 x2 x3 x4 3 x6 x7 x8 G K x11 (stR x12 x1.toNat 0 [.i .i64 (x7+(x9.length:Int)+1+1)]) (stR x13 x1.toNat 0 [.i .i64 (x7+(x9.length:Int)+1)])=some ([.one (.i .i64 (x7+(x9.length:Int)+1))],[]):=by
   rw [last_spec,hlen,w64_in (x7+(x9.length:Int)+1) (by omega)]
  have q0:((3:Int) != 3)=false:=rfl
  have q1:decide ((x14.size:Int) > 1600)=false:=decide_eq_false (by omega)
  have q2:decide ((x9.length:Int) ≥ 60)=false:=decide_eq_false (by omega)
  have q3:decide (x7+(x9.length:Int) ≥ 100000)=false:=decide_eq_false (by omega)
  have v1:∀a b c,okR zr32 zo32 (some ([.agg [.i .i64 x1,.i .i64 x2,.i .i64 x3,.i .i64 x4,.i .i64 3,.i .i64 x6,.i .i64 x7,.i .i64 x8,.l G,.i .i64 K,.l a,.l b,.l c]],[]))=true:=fun _ _ _=>rfl
  have v2:∀y z a b c,okR zr30 zo30 (some ([.one (.l y),.one (.i .i64 z)],[[.i .i64 x1,.i .i64 x2,.i .i64 x3,.i .i64 x4,.i .i64 3,.i .i64 x6,.i .i64 x7,.i .i64 x8,.l G,.i .i64 K,.l a,.l b,.l c]]))=true:=fun _ _ _ _ _=>rfl
  refine ⟨gat (msgD x1 x3 x7 x8 G K (stR x12 x1.toNat 0 [.i .i64 (x7+(x9.length:Int)+1+1)])) x1 x12.length 0,?_,?_⟩
  ·simp only [q0,q1,q2,q3,Bool.or_self,Bool.false_eq_true,if_false]
   rw [kS]
   simp only [v1,chk_true,nthR,cellsDV,nthD,asI,asL]
   rw [kA,kL]
   simp only [ew4,ew6,chk_true,nthR,cellsDV,nthD,asI,asL]
  ·rw [kI]
   simp only [v2,chk_true]
   rfl
 ·have qs:(((x5 != 3||decide ((x14.size:Int) > 1600))||decide ((x9.length:Int) ≥ 60))||decide (x7+(x9.length:Int) ≥ 100000))=true:=by
   simp;omega
  have qi:((x5 != 3||decide ((x14.size:Int) > 1600))||!(decide ((x9.length:Int) < 60)&&decide (x7+(x9.length:Int) < 100000)))=true:=by
   simp;omega
  have w0:∀x,okR zr56 zo56 (some ([.one (.b x)],[]))=true:=fun _=>rfl
  have eb:∀x,asB (resC (some ([.one (.b x)],[])) 0 0)=x:=fun _=>rfl
  have kI:t30 x1 x2 x3 x4 x5 x6 x7 x8 x9 x10 x11 x12 x13 x14=some ([.one (.l []),.one (.i .i64 0)],[[.i .i64 x1,.i .i64 x2,.i .i64 x3,.i .i64 x4,.i .i64 x5,.i .i64 x6,.i .i64 x7,.i .i64 x8,.l x9,.i .i64 x10,.l x11,.l x12,.l x13]]):=by
   unfold t30 ta30
   simp only [room_eq x1 x2 x3 x4 x5 x6 x7 x8 x9 x10 x11 x12 x13 (by omega),w0,eb,qi,Bool.true_or,chk_true,if_true]
  have v2:okR zr30 zo30 (some ([.one (.l []),.one (.i .i64 0)],[[.i .i64 x1,.i .i64 x2,.i .i64 x3,.i .i64 x4,.i .i64 x5,.i .i64 x6,.i .i64 x7,.i .i64 x8,.l x9,.i .i64 x10,.l x11,.l x12,.l x13]]))=true:=rfl
  refine Or.inl ⟨?_,?_⟩
  ·rw [if_pos qs]
  ·rw [kI]
   simp only [v2,chk_true]
   rfl
theorem law4 (x1:List (List D)) (w1:x1.length≤maxLen) (t1:∀r∈x1,typL [.i .u8] r):t4 x1=some ([.one (.b true)],[]):=by
 have eB:∀x,asB (resC (some ([.one (.b x)],[])) 0 0)=x:=fun _=>rfl
 have ewb:∀x,okR zr5 zo5 (some ([.one (.b x)],[]))=true:=fun _=>rfl
 have ewS:∀x,okR zr13 zo13 (some ([.one (.b x)],[]))=true:=fun _=>rfl
 unfold t4 ta4
 by_cases hbg:(x1.length:Int) > 1048576
 ·have e58:t5 x1=some ([.one (.b true)],[]):=by unfold t5;rw [decide_eq_true hbg]
  rw [e58,chk_ok (ewb _),if_pos (by rw [eB])]
 have hl:x1.length≤1048576:=by omega
 have e58:t5 x1=some ([.one (.b false)],[]):=by unfold t5;rw [decide_eq_false hbg]
 obtain ⟨a6,⟨c,w11,w12,w13⟩,ws⟩:=n10 x1 hl t1
 rw [e58,chk_ok (ewb _),if_neg (by rw [eB];decide),chk_ok a6]
 generalize t10 x1=z at *
 extract_lets +onlyGivenNames -underBinder n1 n2 n3 n4 n5 n6 n7 n8 l9 n10 l11 l12 l13 s14
 have c:CB n7 n8 l9 [] [] []:=c
 have w11:EL shInt 200 l11:=w11
 have w12:EL shInt 200 l12:=w12
 have w13:EL shInt 200 l13:=w13
 have ws:s14.size≤1700:=ws
 clear_value n1 n2 n3 n4 n5 n6 n7 n8 l9 n10 l11 l12 l13 s14
 have hl9:l9.length≤1048576:=Nat.le_trans c.e.1 (by decide)
 have hl11:l11.length≤1048576:=Nat.le_trans w11.1 (by decide)
 have hl12:l12.length≤1048576:=Nat.le_trans w12.1 (by decide)
 have hl13:l13.length≤1048576:=Nat.le_trans w13.1 (by decide)
 have wS:∀(a0 a1 a2 a3 a4 a5 a6 a7:Int) (b8:List (List D)) (a9:Int) (b10 b11 b12 m:List (List D)) (n:Int),okR zr12 zo12 (some ([.agg [.i .i64 a0,.i .i64 a1,.i .i64 a2,.i .i64 a3,.i .i64 a4,.i .i64 a5,.i .i64 a6,.i .i64 a7,.l b8,.i .i64 a9,.l b10,.l b11,.l b12],.one (.l m),.one (.i .i64 n)],[]))=true:=fun _ _ _ _ _ _ _ _ _ _ _ _ _ _ _=>rfl
 have wI:∀(a0 a1 a2 a3 a4 a5 a6 a7:Int) (b8:List (List D)) (a9:Int) (b10 b11 b12 m:List (List D)) (n:Int),okR zr11 zo11 (some ([.agg [.i .i64 a0,.i .i64 a1,.i .i64 a2,.i .i64 a3,.i .i64 a4,.i .i64 a5,.i .i64 a6,.i .i64 a7,.l b8,.i .i64 a9,.l b10,.l b11,.l b12],.one (.l m),.one (.i .i64 n)],[]))=true:=fun _ _ _ _ _ _ _ _ _ _ _ _ _ _ _=>rfl
 cases hB:coreB n1 n2 n3 n4 n5 n6 n7 n8 l9 n10 l11 l12 l13
 ·obtain ⟨eS,eI⟩:=prop_bad n1 n2 n3 n4 n5 n6 n7 n8 l9 n10 l11 l12 l13 s14 hl9 c.e.2 hl11 w11.2 hl12 w12.2 hl13 w13.2 hB
  rw [eI,eS]
  refine Eq.trans (chk_ok (wI _ _ _ _ _ _ _ _ _ _ _ _ _ _ _) _) (Eq.trans (chk_ok (wS _ _ _ _ _ _ _ _ _ _ _ _ _ _ _) _) ?_)
  exact Eq.trans (if_neg (by decide)) (Eq.trans (if_pos (by decide)) rfl)
 rcases prop_two n1 n2 n3 n4 n5 n6 n7 n8 l9 n10 l11 l12 l13 s14 hl9 c.e.2 hl11 w11.2 hl12 w12.2 hl13 w13.2 hB with ⟨eS,eI⟩ | ⟨e5,hs,hr,t,eS,eI⟩
 ·rw [eI,eS]
  refine Eq.trans (chk_ok (wI _ _ _ _ _ _ _ _ _ _ _ _ _ _ _) _) (Eq.trans (chk_ok (wS _ _ _ _ _ _ _ _ _ _ _ _ _ _ _) _) ?_)
  exact Eq.trans (if_neg Bool.false_ne_true) (Eq.trans (if_pos rfl) rfl)
 rw [eI,eS]
 subst e5
 refine Eq.trans (chk_ok (wI _ _ _ _ _ _ _ _ _ _ _ _ _ _ _) _) (Eq.trans (chk_ok (wS _ _ _ _ _ _ _ _ _ _ _ _ _ _ _) _) ?_)
 obtain ⟨L0,e1,e4,e6,e11⟩:=LD.of c.e.2 w12.2 w13.2 hB
 clear eS eI
 obtain ⟨id,rfl⟩:∃k:Nat,n1=(k:Int):=⟨n1.toNat,e1⟩
 subst e4 e6 e11
 rw [Int.toNat_natCast] at L0 ⊢
 have hLc:=L0.c
 have hLq:=L0.q
 have hid:=L0.i
 have hp:=L0.p
 have hLm:=L0.m
 have hci:=com_in n2 n3 n7 n8 (l9++[[.i .i64 n3,.s s14]]) n10 (stR l13 id 0 [.i .i64 (n7+(l9.length:Int)+1)]) (n7+(l9.length:Int)+1 - n10).toNat
 have LG:=L0.grow hs hr (c':=com n2 n3 n7 n8 (l9++[[.i .i64 n3,.s s14]]) n10 (stR l13 id 0 [.i .i64 (n7+(l9.length:Int)+1)]) (n7+(l9.length:Int)+1 - n10).toNat) ⟨by omega,by omega⟩
 have hgl:=getD_last l9 [D.i .i64 n3,.s s14]
 have hel:((l9++[[D.i .i64 n3,.s s14]]).length:Int)=(l9.length:Int)+1:=by simp
 have htr:trm n7 n8 (l9++[[.i .i64 n3,.s s14]]) (n7+(l9.length:Int)+1)=n3:=by
  unfold trm
  rw [if_neg (by omega),show (n7+(l9.length:Int)+1 - n7 - 1).toNat=l9.length by omega,hgl];rfl
 have hcl:=com_last (n2:=n2) (n3:=n3) (n7:=n7) (n8:=n8) (l9:=l9++[[.i .i64 n3,.s s14]]) (n10:=n10) (M:=stR l13 id 0 [.i .i64 (n7+(l9.length:Int)+1)]) (n:=n7+(l9.length:Int)+1) (by omega) htr
 obtain ⟨v1,v2,v3⟩:=stR_int w13.2 id (n7+(l9.length:Int)+1) (by omega)
 have hM:∀q:Nat,(q:Int) < n2→(xI (stR l13 id 0 [.i .i64 (n7+(l9.length:Int)+1)]) q ≥ n7+(l9.length:Int)+1↔q < 0∨q=id):=fun q hq=>by
  rw [v3 q (by omega)]
  have:=L0.r q (by have:=L0.x;omega)
  split<;>omega
 rw [many_cnt (i:=0) (id:=id) (N:=(stR l13 id 0 [.i .i64 (n7+(l9.length:Int)+1)]).length) (by omega) (by omega) (fun q hq=>hM q (by omega)) _ 0 (by omega)] at hcl
 simp only [Nat.zero_le,true_and,if_true] at hcl
 generalize com n2 n3 n7 n8 (l9++[[.i .i64 n3,.s s14]]) n10 (stR l13 id 0 [.i .i64 (n7+(l9.length:Int)+1)]) (n7+(l9.length:Int)+1 - n10).toNat=c' at *
 generalize stR l13 id 0 [.i .i64 (n7+(l9.length:Int)+1)]=M' at *
 generalize stR l12 id 0 [.i .i64 (n7+(l9.length:Int)+1+1)]=X' at *
 generalize hG:l9++[[D.i .i64 n3,.s s14]]=G at *
 have hts:t13 (G.take l9.length) l9=some ([.one (.b true)],[]):=by
  rw [←hG,List.take_left' rfl];exact same_self l9 c.e.2 hl9
 have f1:((n7+(l9.length:Int)+1)==0)=false:=by simp only [beq_eq_false_iff_ne,ne_eq];omega
 have f2:((G.length:Int) != w64 ((l9.length:Int)+1))=false:=by rw [w64_in _ (by omega),hel];simp
 have f3:decide (0≤(l9.length:Int)∧(l9.length:Int)≤(G.length:Int))=true:=decide_eq_true (by omega)
 have f5:(decide (0≤(l9.length:Int))&&decide ((l9.length:Int) < (G.length:Int)))=true:=by simp;omega
 have f7:(decide (2≤([D.i .i64 n3,.s s14]:List D).length)&&isF z9 1 [D.i .i64 n3,.s s14])=true:=rfl
 have f8:(decide (1≤([D.i .i64 n3,.s s14]:List D).length)&&isF z3 0 [D.i .i64 n3,.s s14])=true:=rfl
 have f10:((n7+(l9.length:Int)+1) != w64 (n7+(G.length:Int)))=false:=by rw [w64_in _ (by omega),hel];simp;omega
 have ewT:okR zr13 zo13 (some ([.one (.b true)],[]))=true:=rfl
 simp only [resC,nthR,cellsDV,nthD,asI,asL,asS,asB,bne_self_eq_false,Bool.or_self,Bool.false_eq_true,if_false,f1,f2,f3,f5,f10,hgl,Int.toNat_natCast,Bool.not_false,Bool.not_true,Bool.or_false,chk_true,hts,ewT,f7,f8,BEq.rfl,Bool.or_true,Bool.true_or]
 have ha:ans 0 id=0:=by unfold ans;split<;>omega
 by_cases g1:n2=1
 ·have h1:c'=n7+(l9.length:Int)+1:=hcl.2 (by omega)
  rw [if_pos (by simpa using g1),h1,BEq.rfl]
 ·rw [if_neg (by simpa using g1)]
  apply Eq.trans ?g0 (grow_loop (id:=id) (n2:=n2) (n3:=n3) (n7:=n7) (n8:=n8) (G:=G) (R:=some ([.one (.b true)],[])) ?g1 rfl rfl rfl ?g2 ?g3 n2.toNat 0 KK c' X' M' .undef .undef .undef (by omega) (by rw [KK_eq];omega) LG ?g4 ?g5)
  case g0=>rw [ha];rfl
  case g1=>rw [hel];omega
  case g2=>rw [hel,←Int.add_assoc];exact htr
  case g3=>intros;simp only [hel,←Int.add_assoc,BEq.rfl]
  case g4=>rw [hel,←Int.add_assoc,ha];exact hcl.trans (by omega)
  case g5=>rw [hel,←Int.add_assoc];exact hM
end Go.Den.L4
