/- Plain laws about what the functions compute; no condition. -/
import Derived.Test.YtbmgnecedmcneaaGreatL4Tw
import Derived.IntWalk
set_option linter.unusedVariables false
set_option linter.unusedSimpArgs false
/- How twins are taken apart. -/
namespace Go.Den.L4
open Go Go.IntWalk
theorem chk_true (x:Rs):chk true x=x:=rfl
theorem chk_ok {b:Bool} (h:b=true) (x:Rs):chk b x=x:=by rw [h];rfl
attribute [simp] chk_true okR isVs isV isD isDs isOs resC outC nthR nthO cellsDV nthD asB asI asS asL
theorem ite_not {α:Type} (a b:Bool) (h:a=!b) (x y:α):(if a=true then x else y)=(if b=true then y else x):=by
 subst h;cases b<;>rfl
theorem bool_some (a b:Bool) (h:a=b):(some ([DV.one (.b a)],([]:List (List D))):Rs)=some ([.one (.b b)],[]):=by rw [h]
theorem nil_toList:(⟨#[]⟩:ByteArray).toList=[]:=by rw [ByteArray.toList_eq]
theorem toList_nil (s:ByteArray):s.toList=[]↔(s.size:Int)=0:=by
 have e:s.size=s.data.toList.length:=by rw [Array.length_toList];rfl
 rw [ByteArray.toList_eq,e]
 cases s.data.toList<;>simp<;>omega
theorem toList_isEmpty (s:ByteArray):s.toList.isEmpty=decide ((s.size:Int)=0):=by
 rw [Bool.eq_iff_iff,List.isEmpty_iff,toList_nil];simp
attribute [simp] nil_toList toList_nil toList_isEmpty
theorem KK_eq:KK=18446744073709551616:=Classical.choose_spec (⟨2 ^ 64,rfl⟩:∃n:Nat,n=2 ^ 64)
theorem w64_in (n:Int) (h:-9223372036854775808≤n∧n≤9223372036854775807):w64 n=n:=i64_in n h
theorem getD_in {l:List (List D)} {i:Nat} (hi:i < l.length):l.getD i []=l[i]:=by simp [List.getD,hi]
theorem getD_row {l:List (List D)} {es:List Sh} (h:∀r∈l,typL es r) {i:Nat} (hi:i < l.length):typL es (l.getD i []):=by
 rw [getD_in hi];exact h _ (List.getElem_mem hi)
theorem w64_succ (i:Nat) (h:i < 4611686018427387904):w64 ((i:Int)+1)=((i+1:Nat):Int):=by
 rw [w64_in _ (by omega)];rfl
theorem within_eq (a b c:Int):t40 a b c=some ([.one (.b (decide (b≤a)&&decide (a≤c)))],[]):=rfl
theorem in_eq (a b c:Int):t20 a b c=some ([.one (.b (decide (b≤a)&&decide (a≤c)))],[]):=rfl
end Go.Den.L4

/- Sizes; copies of rows. -/
namespace Go.Den.L4
open Go
mutual
/-- What was found small enough. -/
def szdD:Sh→D→Prop
 | .b,_=>True
 | .i _,_=>True
 | .s,d=>(asS d).size≤1048576
 | .l es,d=>(asL d).length≤1048576∧∀r∈asL d,szdL es r
def szdL:List Sh→List D→Prop
 | [],_=>True
 | e :: es,ds=>szdD e (nthD ds 0)∧szdL es ds.tail
end
theorem mem_getD {l:List (List D)} {i:Nat} (h:i < l.length):l.getD i []∈l:=by rw [getD_in h];exact List.getElem_mem h
theorem all_getD {l:List (List D)} {P:List D→Prop} (h:∀j,j < l.length→P (l.getD j [])):∀r∈l,P r:=by
 intro r hr
 obtain ⟨j,hj,rfl⟩:=List.mem_iff_getElem.1 hr
 rw [←getD_in hj];exact h j hj
theorem nat_in {i n:Nat} (h:i < n):decide ((i:Int) < (n:Int))=true:=by simp;omega
theorem nat_pos (i:Nat):decide ((0:Int)≤(i:Int))=true:=by simp
end Go.Den.L4

/- Types Snap Entry EntryS Kept Rec RecS Store Dirent DirentS Inode InodeS Vol IntS Cred Call Result Note NoteS Session SessionS Tenant TenantS Slot SlotS Msg MsgS Core: sizes, copies, likeness (printed by fam.py). -/
namespace Go.Den.L4
open Go
abbrev shEntry:List Sh:=[.i .i64,.s]
theorem Entry_row {r:List D} (h:typL shEntry r):∃x1 x2,r=[.i .i64 x1,.s x2]∧x2.size≤maxLen:=by
 obtain ⟨_,_,rfl,⟨x1,rfl,_⟩,⟨_,_,rfl,⟨x2,rfl,wx2⟩,rfl⟩⟩:=h
 exact ⟨x1,x2,rfl,wx2⟩
abbrev shInt:List Sh:=[.i .i64]
theorem Int_row {r:List D} (h:typL shInt r):∃x1,r=[.i .i64 x1]:=by
 obtain ⟨_,_,rfl,⟨x1,rfl,_⟩,rfl⟩:=h
 exact ⟨x1,rfl⟩
end Go.Den.L4

/- Places, batches. -/
namespace Go.Den.L4
open Go
theorem row_in {sh:List Sh} {l:List (List D)} (h:∀r∈l,typL sh r) (z:List D) (hz:∀r,typL sh r→isRow z r=true) (i:Nat) (hi:i < l.length):isRow z (l.getD i [])=true:=hz _ (getD_row h hi)
theorem entry_row:∀r,typL shEntry r→isRow z38 r=true:=fun r h=>by
 obtain ⟨a,b,rfl,_⟩:=Entry_row h;rfl
/-- A batch: terms that do not fall, up to t; none too long. -/
def runB (l:List (List D)) (t:Int):Nat→Nat→Int→Bool
 | 0,_,_=>true
 | k+1,i,p=>decide (p≤asI (nthD (l.getD i []) 0)∧asI (nthD (l.getD i []) 0)≤t∧((asS (nthD (l.getD i []) 1)).size:Int)≤1600)&&runB l t k (i+1) (asI (nthD (l.getD i []) 0))
/-- A message that may be. -/
def placeB (a b:Int):Bool:=decide ((a=0∧b=0)∨(1≤a∧a≤100000∧1≤b∧b≤100000))
theorem place_spec (a b:Int):t39 a b=some ([.one (.b (placeB a b))],[]):=by
 simp only [t39,ta39,in_eq,zr20,zo20,okR,isVs,isV,isD,isOs,resC,nthR,cellsDV,nthD,asB,Bool.and_true,Bool.true_or,chk_true]
 split<;>(apply bool_some;unfold placeB;rw [Bool.eq_iff_iff];simp_all;try omega)
theorem place_impl (a b:Int):t67 a b=some ([.one (.b (placeB a b))],[]):=by
 simp only [t67,ta67,within_eq,zr40,zo40,okR,isVs,isV,isD,isOs,resC,nthR,cellsDV,nthD,asB,Bool.and_true,Bool.true_or,chk_true]
 apply bool_some;unfold placeB;rw [Bool.eq_iff_iff];simp;omega
end Go.Den.L4

/- Marks. -/
namespace Go.Den.L4
open Go
theorem getD_mid (a b:List (List D)) (r:List D) (i:Nat) (h:i=a.length):(a++r :: b).getD i []=r:=by
 subst h;simp [List.getD]
end Go.Den.L4

/- Kept ones, cores. -/
namespace Go.Den.L4
open Go
def mx (p:Int):Int:=if p < 1 then 1 else p
def allB (f:Nat→Bool):Nat→Nat→Bool
 | 0,_=>true
 | k+1,i=>f i&&allB f k (i+1)
theorem int_row:∀r,typL shInt r→isRow z3 r=true:=fun r h=>by
 obtain ⟨a,rfl⟩:=Int_row h;rfl
theorem flat_of {n:Nat} {l:List (List D)} (h:∀r∈l,(decide (r.length=n)&&allSc r)=true):flatR n l=true:=by
 induction l with
 | nil=>rfl
 | cons r l ih=>simp only [flatR,h r (by simp),ih (fun r hr=>h r (by simp [hr])),Bool.and_true]
theorem entry_flat {l:List (List D)} (h:∀r∈l,typL shEntry r):flatR 2 l=true:=flat_of fun r hr=>by
 obtain ⟨a,b,rfl,_⟩:=Entry_row (h r hr);rfl
theorem kept_loopS (n23 n24 n25 n26:Int) (s27:ByteArray) (l28:List (List D)) (b29 b32:Bool) (t n36 n37 n38:Int) (s39:ByteArray) (q1:Int→Int→Bool→Bool→Int→ByteArray→Rs) (q2:Int→Int→Bool→SV→Rs) (h1:∀a b c d e f,q1 a b c d e f=some ([.one (.b false)],[])) (h2:∀a b c d,q2 a b c d=some ([.one (.b true)],[])) (l:List (List D)) (h:∀r∈l,typL shEntry r) (hl:l.length < 4611686018427387904):∀(k i m:Nat) (p:Int) (v w:SV),i+k=l.length→k < m →
  la21o1 t20 t39 n23 n24 n25 n26 s27 l28 b29 b32 t n36 n37 n38 s39 l q1 q2 m p i v w=some ([.one (.b (runB l t k i (mx p)))],[]):=by
 intro k
 induction k with
 | zero =>
  intro i m p v w e hm
  obtain ⟨m,rfl⟩:∃m',m=m' + 1:=⟨m - 1,by omega⟩
  have ei:decide ((i:Int) < (l.length:Int))=false:=by simp;omega
  simp only [la21o1,ei,h2,runB]
  simp
 | succ k ih =>
  intro i m p v w e hm
  obtain ⟨m,rfl⟩:∃m',m=m' + 1:=⟨m - 1,by omega⟩
  have e1:=nat_in (i:=i) (n:=l.length) (by omega)
  have ez:=row_in h _ entry_row i (by omega)
  simp only [la21o1,e1,nat_pos,Int.toNat_natCast,ez,Bool.and_true,chk_true,if_true,runB]
  rw [w64_succ i (by omega)]
  have hm1:mx p=if p < 1 then 1 else p:=rfl
  by_cases g:mx p≤asI (nthD (l.getD i []) 0)∧asI (nthD (l.getD i []) 0)≤t∧((asS (nthD (l.getD i []) 1)).size:Int)≤1600
  ·have g1:(((decide (asI (nthD (l.getD i []) 0) < 1)||decide (asI (nthD (l.getD i []) 0) < p))||decide (asI (nthD (l.getD i []) 0) > t))||decide (((asS (nthD (l.getD i []) 1)).size:Int) > 1600))=false:=by
    simp only [Bool.or_eq_false_iff,decide_eq_false_iff_not];rw [hm1] at g;split at g<;>omega
   simp only [g1,decide_eq_true g,Bool.true_and,Bool.false_eq_true,if_false]
   have hmx:mx (asI (nthD (l.getD i []) 0))=asI (nthD (l.getD i []) 0):=by unfold mx;rw [hm1] at g;split at g<;>(rw [if_neg (by omega)])
   have:=ih (i+1) m (asI (nthD (l.getD i []) 0)) (.d (.b true)) (.d (.b false)) (by omega) (by omega)
   rw [hmx] at this
   exact this
  ·have g1:(((decide (asI (nthD (l.getD i []) 0) < 1)||decide (asI (nthD (l.getD i []) 0) < p))||decide (asI (nthD (l.getD i []) 0) > t))||decide (((asS (nthD (l.getD i []) 1)).size:Int) > 1600))=true:=by
    simp only [Bool.or_eq_true,decide_eq_true_eq];rw [hm1] at g;split at g<;>omega
   simp only [g1,if_true,h1,decide_eq_false g,Bool.false_and]
theorem kept_loopI (n26 n27 n28 n29:Int) (s30:ByteArray) (l31:List (List D)) (b32 b34 b35:Bool) (t n42 n43 n44:Int) (s45:ByteArray) (l46:List (List D)) (q1:Int→Int→Bool→Bool→Int→ByteArray→Rs) (q2:Int→Int→Bool→SV→Rs) (g:Bool) (h1:∀a b c d e f,q1 a b c d e f=some ([.one (.b false)],[])) (h2:∀a b c d,q2 a b c d=some ([.one (.b g)],[])) (l:List (List D)) (h:∀r∈l,typL shEntry r) (hl:l.length < 4611686018427387904):∀(k i m:Nat) (p:Int) (v w:SV),i+k=l.length→k < m →
  la41o2 t40 n26 n27 n28 n29 s30 l31 b32 b34 b35 l (l.length:Int) t n42 n43 n44 s45 l46 q1 q2 m p i v w=some ([.one (.b (runB l t k i p&&g))],[]):=by
 intro k
 induction k with
 | zero =>
  intro i m p v w e hm
  obtain ⟨m,rfl⟩:∃m',m=m' + 1:=⟨m - 1,by omega⟩
  have ei:decide ((i:Int) < (l.length:Int))=false:=by simp;omega
  simp only [la41o2,ei,h2,runB]
  simp
 | succ k ih =>
  intro i m p v w e hm
  obtain ⟨m,rfl⟩:∃m',m=m' + 1:=⟨m - 1,by omega⟩
  have e1:=nat_in (i:=i) (n:=l.length) (by omega)
  have ez:=row_in h _ entry_row i (by omega)
  have ew:∀x,okR zr40 zo40 (some ([.one (.b x)],[]))=true:=fun _=>rfl
  have eb:∀x,asB (resC (some ([.one (.b x)],[])) 0 0)=x:=fun _=>rfl
  simp only [la41o2,e1,nat_pos,Int.toNat_natCast,ez,within_eq,ew,eb,Bool.and_true,Bool.true_or,chk_true,if_true,runB]
  rw [w64_succ i (by omega)]
  by_cases g':p≤asI (nthD (l.getD i []) 0)∧asI (nthD (l.getD i []) 0)≤t∧((asS (nthD (l.getD i []) 1)).size:Int)≤1600
  ·have g1:(decide (((asS (nthD (l.getD i []) 1)).size:Int) > 1600)||!(decide (p≤asI (nthD (l.getD i []) 0))&&decide (asI (nthD (l.getD i []) 0)≤t)))=false:=by
    simp only [Bool.or_eq_false_iff,Bool.not_eq_false',Bool.and_eq_true,decide_eq_false_iff_not,decide_eq_true_eq];omega
   simp only [g1,decide_eq_true g',Bool.true_and,Bool.false_eq_true,if_false]
   exact ih (i+1) m _ _ _ (by omega) (by omega)
  ·have g1:(decide (((asS (nthD (l.getD i []) 1)).size:Int) > 1600)||!(decide (p≤asI (nthD (l.getD i []) 0))&&decide (asI (nthD (l.getD i []) 0)≤t)))=true:=by
    simp only [Bool.or_eq_true,Bool.not_eq_true',Bool.and_eq_false_iff,decide_eq_false_iff_not,decide_eq_true_eq];omega
   simp only [g1,if_true,h1,decide_eq_false g',Bool.false_and]
def keptA (t v si st:Int) (ss:ByteArray) (l:List (List D)):Bool :=
 decide (0≤t∧t≤100000∧-1≤v∧v≤4∧(si=0→(ss.size:Int)=0)∧(ss.size:Int)≤20000∧st≤t∧(l.length:Int)≤60∧w64 (si+(l.length:Int))≤100000)&&placeB si st
def keptB (t v si st:Int) (ss:ByteArray) (l:List (List D)):Bool:=keptA t v si st ss l&&runB l t l.length 0 (mx st)
theorem keptOk_spec (t v si st:Int) (ss:ByteArray) (l:List (List D)) (hl:l.length≤1048576) (h:∀r∈l,typL shEntry r):t21 t v si st ss l=some ([.one (.b (keptB t v si st ss l))],[]):=by
 have ew:∀x,okR zr20 zo20 (some ([.one (.b x)],[]))=true:=fun _=>rfl
 have ew2:∀x,okR zr39 zo39 (some ([.one (.b x)],[]))=true:=fun _=>rfl
 have eb:∀x,asB (resC (some ([.one (.b x)],[])) 0 0)=x:=fun _=>rfl
 have key:=fun b29 b32=>kept_loopS t v si st ss l b29 b32 t v si st ss (fun _ _ _ _ _ _=>some ([.one (.b false)],[])) (fun _ _ _ _=>some ([.one (.b true)],[])) (fun _ _ _ _ _ _=>rfl) (fun _ _ _ _=>rfl) l h (by omega) l.length 0 KK st .undef .undef (by omega) (by rw [KK_eq];omega)
 simp only [t21,ta21,in_eq,place_spec,ew,ew2,eb,Bool.true_or,chk_true]
 rw [ite_not _ (keptA t v si st ss l)]
 ·unfold keptB
  cases keptA t v si st ss l
  ·rfl
  ·refine Eq.trans (key _ _) ?_;simp
 ·unfold keptA
  generalize placeB si st=pl
  rw [Bool.eq_iff_iff]
  cases pl<;>simp [-ByteArray.size_eq_zero_iff]<;>try omega
theorem keptOk_impl (t v si st:Int) (ss:ByteArray) (l:List (List D)) (hl:l.length≤1048576) (h:∀r∈l,typL shEntry r):t41 t v si st ss l=some ([.one (.b (keptB t v si st ss l))],[]):=by
 have ew:∀x,okR zr40 zo40 (some ([.one (.b x)],[]))=true:=fun _=>rfl
 have eb:∀x,asB (resC (some ([.one (.b x)],[])) 0 0)=x:=fun _=>rfl
 have key:=fun b32 b34 b35=>kept_loopI t v si st ss l b32 b34 b35 t v si st ss l (fun _ _ _ _ _ _=>some ([.one (.b false)],[])) (fun _ _ _ _=>some ([.one (.b (decide (w64 (si+(l.length:Int))≤100000)))],[])) _ (fun _ _ _ _ _ _=>rfl) (fun _ _ _ _=>rfl) l h (by omega) l.length 0 KK (mx st) .undef .undef (by omega) (by rw [KK_eq];omega)
 have e:(if st > 1 then st else 1)=mx st:=by unfold mx;split<;>split<;>omega
 simp only [t41,ta41,within_eq,ew,eb,Bool.true_or,chk_true,e]
 unfold keptB keptA placeB
 split
 ·rename_i g
  apply bool_some
  symm
  rw [Bool.eq_false_iff]
  simp at g ⊢
  omega
 ·rename_i g
  split
  ·rename_i g2
   apply bool_some
   symm
   rw [Bool.eq_false_iff]
   simp [-ByteArray.size_eq_zero_iff] at g g2 ⊢
   omega
  ·rename_i g2
   refine Eq.trans (key _ _ _) ?_
   apply bool_some
   rw [Bool.eq_iff_iff]
   generalize runB l t l.length 0 (mx st)=r
   cases r
   ·simp
   ·simp [-ByteArray.size_eq_zero_iff] at g g2 ⊢
    omega
end Go.Den.L4

/- Cores that are right. -/
namespace Go.Den.L4
open Go
abbrev xI (l:List (List D)) (i:Nat):Int:=asI (nthD (l.getD i []) 0)
def seekF (l:List (List D)) (N:Int) (i:Nat):Bool:=decide (0≤xI l i∧xI l i≤w64 (N - 1))&&(decide (i=0)||decide (xI l (i - 1) < xI l i))
def leadF (nx mt:List (List D)) (La:Int) (i:Nat):Bool:=decide (0≤xI mt i∧xI mt i < xI nx i∧xI nx i≤w64 (La+1))
def noF (l:List (List D)) (x:Int) (i:Nat):Bool:=!(xI l i==x)
theorem last_spec (n1 n2 n3 n4 n5 n6 n7 n8:Int) (l9:List (List D)) (n10:Int) (l11 l12 l13:List (List D)):t23 n1 n2 n3 n4 n5 n6 n7 n8 l9 n10 l11 l12 l13=some ([.one (.i .i64 (w64 (n7+(l9.length:Int))))],[]):=rfl
theorem last_impl (n1 n2 n3 n4 n5 n6 n7 n8:Int) (l9:List (List D)) (n10:Int) (l11 l12 l13:List (List D)):t43 n1 n2 n3 n4 n5 n6 n7 n8 l9 n10 l11 l12 l13=some ([.one (.i .i64 (w64 (n7+(l9.length:Int))))],[]):=rfl
theorem prev_eq (i:Nat) (h:0 < i) (hi:i < 4611686018427387904):w64 ((i:Int) - 1)=((i - 1:Nat):Int):=by
 rw [w64_in _ (by omega)];omega
theorem seek_loopS (n47 n48 n49 n50 n51 n52 n53 n54:Int) (l55:List (List D)) (n56:Int) (l57 l58 l59:List (List D)) (b60 b62:Bool) (n63:Int) (b64 b65:Bool) (n68 N n70 n71 n72 n73 n74 n75:Int) (l76:List (List D)) (n77:Int) (l79 l80 l81:List (List D)) (q1:Int→Bool→Bool→Rs) (q2:Int→Bool→SV→Rs) (g:Bool) (h1:∀a b c,q1 a b c=some ([.one (.b false)],[])) (h2:∀a b c,q2 a b c=some ([.one (.b g)],[])) (l:List (List D)) (h:∀r∈l,typL shInt r) (hl:l.length < 4611686018427387904):∀(k i m:Nat) (v w:SV),i+k=l.length→k < m →
  la7o3 t20 t21 t22 t23 t24 n47 n48 n49 n50 n51 n52 n53 n54 l55 n56 l57 l58 l59 b60 b62 n63 b64 b65 n68 N n70 n71 n72 n73 n74 n75 l76 n77 l l79 l80 l81 q1 q2 m i v w=some ([.one (.b (allB (seekF l N) k i&&g))],[]):=by
 intro k
 induction k with
 | zero =>
  intro i m v w e hm
  obtain ⟨m,rfl⟩:∃m',m=m' + 1:=⟨m - 1,by omega⟩
  have ei:decide ((i:Int) < (l.length:Int))=false:=by simp;omega
  simp only [la7o3,ei,h2,allB,Bool.true_and]
  simp
 | succ k ih =>
  intro i m v w e hm
  obtain ⟨m,rfl⟩:∃m',m=m' + 1:=⟨m - 1,by omega⟩
  have e1:=nat_in (i:=i) (n:=l.length) (by omega)
  have ez:=row_in h _ int_row i (by omega)
  have ew:∀x,okR zr20 zo20 (some ([.one (.b x)],[]))=true:=fun _=>rfl
  have eb:∀x,asB (resC (some ([.one (.b x)],[])) 0 0)=x:=fun _=>rfl
  have hw:=w64_succ i (by omega)
  by_cases hi:i=0
  ·subst hi
   have a1:decide (((0:Nat):Int) > 0)=false:=rfl
   simp only [la7o3,e1,nat_pos,Int.toNat_natCast,ez,in_eq,ew,eb,a1,Bool.and_false,Bool.false_and,Bool.not_false,Bool.or_true,Bool.or_false,Bool.and_true,chk_true,if_true,hw]
   have hs:seekF l N 0=(decide (0≤xI l 0)&&decide (xI l 0≤w64 (N - 1))):=by unfold seekF;simp
   rw [ite_not _ (seekF l N 0) (by rw [hs])]
   simp only [allB]
   cases hb:seekF l N 0
   ·simp [h1]
   ·simp only [if_true,Bool.true_and]
    exact ih 1 m _ _ (by omega) (by omega)
  ·have a1:decide ((i:Int) > 0)=true:=by simp;omega
   have a2:=prev_eq i (by omega) (by omega)
   have e1':=nat_in (i:=i - 1) (n:=l.length) (by omega)
   have ez':=row_in h _ int_row (i - 1) (by omega)
   simp only [la7o3,e1,nat_pos,Int.toNat_natCast,ez,in_eq,ew,eb,a1,a2,e1',ez',Bool.true_or,Bool.and_true,Bool.true_and,chk_true,if_true,hw]
   rw [ite_not _ (seekF l N i) (by
    unfold seekF xI
    rw [Bool.eq_iff_iff];simp [hi]<;>try omega)]
   simp only [allB]
   cases hb:seekF l N i
   ·simp [h1]
   ·simp only [if_true,Bool.true_and]
    exact ih (i+1) m _ _ (by omega) (by omega)
theorem seek_loopI (n31 N n33 n34 n35 n36 n37 n38:Int) (l39:List (List D)) (n40:Int) (l42 l43:List (List D)) (b44:Bool) (q1:Int→Int→Bool→Bool→Rs) (q2:SV→SV→Int→Bool→SV→Rs) (g:Bool) (h1:∀a b c d,q1 a b c d=some ([.one (.b false)],[])) (h2:∀a b c d e,q2 a b c d e=some ([.one (.b g)],[])) (l:List (List D)) (h:∀r∈l,typL shInt r) (hl:l.length < 4611686018427387904):∀(k i m:Nat) (u1 u2 v w:SV),i+k=l.length→k < m →
  la44o0 t40 t65 t66 n31 N n33 n34 n35 n36 n37 n38 l39 n40 l l42 l43 b44 l (l.length:Int) q1 q2 m u1 u2 i v w=some ([.one (.b (allB (seekF l N) k i&&g))],[]):=by
 intro k
 induction k with
 | zero =>
  intro i m u1 u2 v w e hm
  obtain ⟨m,rfl⟩:∃m',m=m' + 1:=⟨m - 1,by omega⟩
  have ei:decide ((i:Int) < (l.length:Int))=false:=by simp;omega
  simp only [la44o0,ei,h2,allB,Bool.true_and]
  simp
 | succ k ih =>
  intro i m u1 u2 v w e hm
  obtain ⟨m,rfl⟩:∃m',m=m' + 1:=⟨m - 1,by omega⟩
  have e1:=nat_in (i:=i) (n:=l.length) (by omega)
  have ez:=row_in h _ int_row i (by omega)
  have ew:∀x,okR zr40 zo40 (some ([.one (.b x)],[]))=true:=fun _=>rfl
  have eb:∀x,asB (resC (some ([.one (.b x)],[])) 0 0)=x:=fun _=>rfl
  have hw:=w64_succ i (by omega)
  by_cases hi:i=0
  ·subst hi
   have a1:decide (((0:Nat):Int) > 0)=false:=rfl
   simp only [la44o0,e1,nat_pos,Int.toNat_natCast,ez,within_eq,ew,eb,a1,Bool.and_false,Bool.false_and,Bool.not_false,Bool.or_true,Bool.or_false,Bool.and_true,chk_true,if_true,hw]
   have hs:seekF l N 0=(decide (0≤xI l 0)&&decide (xI l 0≤w64 (N - 1))):=by unfold seekF;simp
   rw [ite_not _ (seekF l N 0) (by rw [hs])]
   simp only [allB]
   cases hb:seekF l N 0
   ·simp [h1]
   ·simp only [if_true,Bool.true_and]
    exact ih 1 m _ _ _ _ (by omega) (by omega)
  ·have a1:decide ((i:Int) > 0)=true:=by simp;omega
   have a2:=prev_eq i (by omega) (by omega)
   have e1':=nat_in (i:=i - 1) (n:=l.length) (by omega)
   have ez':=row_in h _ int_row (i - 1) (by omega)
   simp only [la44o0,e1,nat_pos,Int.toNat_natCast,ez,within_eq,ew,eb,a1,a2,e1',ez',Bool.true_or,Bool.and_true,Bool.true_and,chk_true,if_true,hw]
   rw [ite_not _ (seekF l N i) (by
    unfold seekF xI
    rw [Bool.eq_iff_iff];simp [hi]<;>try omega)]
   simp only [allB]
   cases hb:seekF l N i
   ·simp [h1]
   ·simp only [if_true,Bool.true_and]
    exact ih (i+1) m _ _ _ _ (by omega) (by omega)
theorem lead_loopS (n164 n165 n166 n167 n168 n169 n170 n171:Int) (l172:List (List D)) (n173:Int) (l174 l175 l176:List (List D)) (b177 b179:Bool) (n180:Int) (b181 b182 b183 b184:Bool) (n187 n189 n190 n191 n192 n193 n194:Int) (l195:List (List D)) (n196:Int) (l197 l200:List (List D)) (q1:Int→Bool→Bool→Rs) (q2:Int→Bool→SV→Rs) (g:Bool) (h1:∀a b c,q1 a b c=some ([.one (.b false)],[])) (h2:∀a b c,q2 a b c=some ([.one (.b g)],[])) (nx l:List (List D)) (hx:∀r∈nx,typL shInt r) (h:∀r∈l,typL shInt r) (hn:nx.length=l.length) (hl:l.length < 4611686018427387904):∀(k i m:Nat) (v w:SV),i+k=l.length→k < m →
  la7o8 t20 t21 t22 t23 t24 n164 n165 n166 n167 n168 n169 n170 n171 l172 n173 l174 l175 l176 b177 b179 n180 b181 b182 b183 b184 n187 (l.length:Int) n189 n190 n191 n192 n193 n194 l195 n196 l197 nx l l200 q1 q2 m i v w=some ([.one (.b (allB (leadF nx l (w64 (n193+(l195.length:Int)))) k i&&g))],[]):=by
 intro k
 induction k with
 | zero =>
  intro i m v w e hm
  obtain ⟨m,rfl⟩:∃m',m=m' + 1:=⟨m - 1,by omega⟩
  have ei:decide ((i:Int) < (l.length:Int))=false:=by simp;omega
  simp only [la7o8,ei,h2,allB,Bool.true_and]
  simp
 | succ k ih =>
  intro i m v w e hm
  obtain ⟨m,rfl⟩:∃m',m=m' + 1:=⟨m - 1,by omega⟩
  have e1:=nat_in (i:=i) (n:=l.length) (by omega)
  have ez:=row_in h _ int_row i (by omega)
  have e1':=nat_in (i:=i) (n:=nx.length) (by omega)
  have ez':=row_in hx _ int_row i (by omega)
  have ew:∀x,okR zr23 zo23 (some ([.one (.i .i64 x)],[]))=true:=fun _=>rfl
  have eb:∀x,asI (resC (some ([.one (.i .i64 x)],[])) 0 0)=x:=fun _=>rfl
  have hw:=w64_succ i (by omega)
  simp only [la7o8,e1,e1',nat_pos,Int.toNat_natCast,ez,ez',last_spec,ew,eb,Bool.true_or,Bool.and_true,chk_true,if_true,hw]
  rw [ite_not _ (leadF nx l (w64 (n193+(l195.length:Int))) i) (by
   unfold leadF xI
   rw [Bool.eq_iff_iff];simp;omega)]
  simp only [allB]
  cases hb:leadF nx l (w64 (n193+(l195.length:Int))) i
  ·simp [h1]
  ·simp only [if_true,Bool.true_and]
   exact ih (i+1) m _ _ (by omega) (by omega)
theorem lead_loopI (n32 n33 n34 n35 n36 n37 n38 n39:Int) (l40:List (List D)) (n41:Int) (l42 l44:List (List D)) (b45 b48:Bool) (q1:Int→Int→Bool→Bool→Rs) (q2:SV→SV→Int→Bool→SV→Rs) (g:Bool) (h1:∀a b c d,q1 a b c d=some ([.one (.b false)],[])) (h2:∀a b c d e,q2 a b c d e=some ([.one (.b g)],[])) (nx l:List (List D)) (hx:∀r∈nx,typL shInt r) (h:∀r∈l,typL shInt r) (hn:nx.length=l.length) (hl:l.length < 4611686018427387904):∀(k i m:Nat) (u1 u2 v w:SV),i+k=l.length→k < m →
  la45o1 t43 n32 n33 n34 n35 n36 n37 n38 n39 l40 n41 l42 nx l44 b45 b48 l (l.length:Int) q1 q2 m u1 u2 i v w=some ([.one (.b (allB (leadF nx l (w64 (n38+(l40.length:Int)))) k i&&g))],[]):=by
 intro k
 induction k with
 | zero =>
  intro i m u1 u2 v w e hm
  obtain ⟨m,rfl⟩:∃m',m=m' + 1:=⟨m - 1,by omega⟩
  have ei:decide ((i:Int) < (l.length:Int))=false:=by simp;omega
  simp only [la45o1,ei,h2,allB,Bool.true_and]
  simp
 | succ k ih =>
  intro i m u1 u2 v w e hm
  obtain ⟨m,rfl⟩:∃m',m=m' + 1:=⟨m - 1,by omega⟩
  have e1:=nat_in (i:=i) (n:=l.length) (by omega)
  have ez:=row_in h _ int_row i (by omega)
  have e1':=nat_in (i:=i) (n:=nx.length) (by omega)
  have ez':=row_in hx _ int_row i (by omega)
  have ew:∀x,okR zr43 zo43 (some ([.one (.i .i64 x)],[]))=true:=fun _=>rfl
  have eb:∀x,asI (resC (some ([.one (.i .i64 x)],[])) 0 0)=x:=fun _=>rfl
  have hw:=w64_succ i (by omega)
  simp only [la45o1,e1,e1',nat_pos,Int.toNat_natCast,ez,ez',last_impl,ew,eb,Bool.true_or,Bool.and_true,chk_true,if_true,hw]
  rw [ite_not _ (leadF nx l (w64 (n38+(l40.length:Int))) i) (by
   unfold leadF xI
   rw [Bool.eq_iff_iff];simp;omega)]
  simp only [allB]
  cases hb:leadF nx l (w64 (n38+(l40.length:Int))) i
  ·simp [h1]
  ·simp only [if_true,Bool.true_and]
   exact ih (i+1) m _ _ _ _ (by omega) (by omega)
theorem in_loop (x:Int) (b:Bool) (q1:Int→Bool→Bool→Rs) (q2:Int→Bool→SV→Rs) (h1:∀a b c,q1 a b c=some ([.one (.b true)],[])) (h2:∀a b c,q2 a b c=some ([.one (.b false)],[])) (l:List (List D)) (h:∀r∈l,typL shInt r) (hl:l.length < 4611686018427387904):∀(k i m:Nat) (v w:SV),i+k=l.length→k < m →
  l24o0 l x b q1 q2 m i v w=some ([.one (.b (!(allB (noF l x) k i)))],[]):=by
 intro k
 induction k with
 | zero =>
  intro i m v w e hm
  obtain ⟨m,rfl⟩:∃m',m=m' + 1:=⟨m - 1,by omega⟩
  have ei:decide ((i:Int) < (l.length:Int))=false:=by simp;omega
  simp only [l24o0,ei,h2,allB]
  simp
 | succ k ih =>
  intro i m v w e hm
  obtain ⟨m,rfl⟩:∃m',m=m' + 1:=⟨m - 1,by omega⟩
  have e1:=nat_in (i:=i) (n:=l.length) (by omega)
  have ez:=row_in h _ int_row i (by omega)
  have hw:=w64_succ i (by omega)
  simp only [l24o0,e1,nat_pos,Int.toNat_natCast,ez,Bool.and_true,chk_true,if_true,hw,allB]
  cases hb:noF l x i
  ·have:(asI (nthD (l.getD i []) 0)==x)=true:=by unfold noF at hb;simpa only [Bool.not_eq_false'] using hb
   simp only [this,if_true,h1,Bool.false_and,Bool.not_false]
  ·have:(asI (nthD (l.getD i []) 0)==x)=false:=by unfold noF at hb;simpa only [Bool.not_eq_true'] using hb
   simp only [this,Bool.false_eq_true,if_false,Bool.true_and]
   exact ih (i+1) m _ _ (by omega) (by omega)
theorem in_spec (l:List (List D)) (hl:l.length≤1048576) (h:∀r∈l,typL shInt r) (x:Int):t24 l x=some ([.one (.b (!(allB (noF l x) l.length 0)))],[]) :=
 in_loop x false (fun _ _ _=>some ([.one (.b true)],[])) (fun _ _ _=>some ([.one (.b false)],[])) (fun _ _ _=>rfl) (fun _ _ _=>rfl) l h (by omega) l.length 0 KK .undef .undef (by omega) (by rw [KK_eq];omega)
theorem ix_loop (x n10:Int) (q1:Int→Bool→Bool→Rs) (q2:SV→Int→Bool→SV→Rs) (h1:∀a b c,q1 a b c=some ([.one (.i .i64 a)],[])) (h2:∀a b c d,q2 a b c d=some ([.one (.i .i64 (-1))],[])) (l:List (List D)) (h:∀r∈l,typL shInt r) (hl:l.length < 4611686018427387904):∀(k i m:Nat) (u v w:SV),i+k=l.length→k < m →
  ∃y:Int,l79o0 l x n10 (l.length:Int) q1 q2 m u i v w=some ([.one (.i .i64 y)],[])∧decide (y ≥ 0)=!(allB (noF l x) k i):=by
 intro k
 induction k with
 | zero =>
  intro i m u v w e hm
  obtain ⟨m,rfl⟩:∃m',m=m' + 1:=⟨m - 1,by omega⟩
  have ei:decide ((i:Int) < (l.length:Int))=false:=by simp;omega
  exact ⟨-1,by simp only [l79o0,ei,h2,Bool.false_eq_true,if_false],rfl⟩
 | succ k ih =>
  intro i m u v w e hm
  obtain ⟨m,rfl⟩:∃m',m=m' + 1:=⟨m - 1,by omega⟩
  have e1:=nat_in (i:=i) (n:=l.length) (by omega)
  have ez:=row_in h _ int_row i (by omega)
  have hw:=w64_succ i (by omega)
  simp only [l79o0,e1,nat_pos,Int.toNat_natCast,ez,Bool.and_true,chk_true,if_true,hw,allB]
  cases hb:noF l x i
  ·have:(x==asI (nthD (l.getD i []) 0))=true:=by
    unfold noF at hb
    have h':asI (nthD (l.getD i []) 0)=x:=by simpa only [Bool.not_eq_false',beq_iff_eq] using hb
    rw [h'];exact beq_self_eq_true x
   exact ⟨i,by simp only [this,if_true,h1],by simp only [Bool.false_and,Bool.not_false];exact decide_eq_true (by omega)⟩
  ·have:(x==asI (nthD (l.getD i []) 0))=false:=by
    unfold noF at hb
    have h':¬ asI (nthD (l.getD i []) 0)=x:=by simpa only [Bool.not_eq_true',beq_eq_false_iff_ne,ne_eq] using hb
    rw [beq_eq_false_iff_ne];exact fun e=>h' e.symm
   simp only [this,Bool.false_eq_true,if_false,Bool.true_and]
   exact ih (i+1) m _ _ _ (by omega) (by omega)
theorem in_impl (l:List (List D)) (hl:l.length≤1048576) (h:∀r∈l,typL shInt r) (x:Int):t65 l x=some ([.one (.b (!(allB (noF l x) l.length 0)))],[]):=by
 obtain ⟨y,hy,hd⟩:=ix_loop x 0 (fun a _ _=>some ([.one (.i .i64 a)],[])) (fun _ _ _ _=>some ([.one (.i .i64 (-1))],[])) (fun _ _ _=>rfl) (fun _ _ _ _=>rfl) l h (by omega) l.length 0 KK .undef .undef .undef (by omega) (by rw [KK_eq];omega)
 have hy':t79 l x=some ([.one (.i .i64 y)],[]):=hy
 have ew:okR zr79 zo79 (some ([.one (.i .i64 y)],[]))=true:=rfl
 have eb:asI (resC (some ([.one (.i .i64 y)],[])) 0 0)=y:=rfl
 simp only [t65,ta65,hy',ew,eb,chk_true,hd]
def roleB (n1 n2 n3 n4 n5 n6 n7:Int) (l9 l11 l12 l13:List (List D)):Bool :=
 if n5=1 then decide (-1≤n6∧n6≤n2 - 1∧n6≠n1∧l11.length=0∧l12.length=0∧l13.length=0)
 else if n5=2 then allB (seekF l11 n2) l11.length 0&&(decide (n3 ≥ 1∧n4=n1∧n6=-1∧2 * (l11.length:Int)≤n2∧l12.length=0∧l13.length=0)&&!(allB (noF l11 n1) l11.length 0))
 else if n5=3 then decide (n3 ≥ 1∧n4=n1∧n6=n1∧l11.length=0∧(l12.length:Int)=n2∧(l13.length:Int)=n2)&&(decide (xI l13 n1.toNat=w64 (n7+(l9.length:Int)))&&allB (leadF l12 l13 (w64 (n7+(l9.length:Int)))) l13.length 0)
 else false
def coreB (n1 n2 n3 n4 n5 n6 n7 n8:Int) (l9:List (List D)) (n10:Int) (l11 l12 l13:List (List D)):Bool :=
 decide (1≤n2∧n2≤5∧0≤n1∧n1≤n2 - 1∧¬ (n7=0∧n8≠0))&&(keptB n3 n4 n7 n8 ⟨#[]⟩ l9&&(decide (n4 < n2∧n7≤n10∧n10≤w64 (n7+(l9.length:Int)))&&roleB n1 n2 n3 n4 n5 n6 n7 l9 l11 l12 l13))
theorem coreKept_spec (n1 n2 n3 n4 n5 n6 n7 n8:Int) (l9:List (List D)) (n10:Int) (l11 l12 l13:List (List D)) (h7:¬ (n7=0∧n8≠0)) (hl:l9.length≤1048576) (h:∀r∈l9,typL shEntry r):t22 n1 n2 n3 n4 n5 n6 n7 n8 l9 n10 l11 l12 l13 ⟨#[]⟩=some ([.agg [.i .i64 n3,.i .i64 n4,.i .i64 n7,.i .i64 n8,.s ⟨#[]⟩,.l l9]],[]):=by
 unfold t22
 rw [chk_ok (by rw [entry_flat h];simp only [Bool.true_and];exact decide_eq_true (by simp only [List.length_nil];unfold lim;omega))]
 by_cases g:n7=0
 ·have:n8=0:=by omega
  subst g;subst this;rfl
 ·have:(n7 != 0)=true:=by simpa using g
  simp only [this,if_true,List.nil_append]
theorem coreKept_impl (n1 n2 n3 n4 n5 n6 n7 n8:Int) (l9:List (List D)) (n10:Int) (l11 l12 l13:List (List D)) (h7:¬ (n7=0∧n8≠0)) (hl:l9.length≤1048576) (h:∀r∈l9,typL shEntry r):t42 n1 n2 n3 n4 n5 n6 n7 n8 l9 n10 l11 l12 l13 ⟨#[]⟩=some ([.agg [.i .i64 n3,.i .i64 n4,.i .i64 n7,.i .i64 n8,.s ⟨#[]⟩,.l l9]],[]):=by
 unfold t42
 rw [chk_ok (by rw [entry_flat h];simp only [Bool.true_and];exact decide_eq_true (by unfold lim;omega))]
 by_cases g:n7=0
 ·have:n8=0:=by omega
  subst g;subst this;rfl
 ·have:(n7 != 0)=true:=by simpa using g
  simp only [this,if_true]
theorem core_spec (n1 n2 n3 n4 n5 n6 n7 n8:Int) (l9:List (List D)) (n10:Int) (l11 l12 l13:List (List D)) (hl:l9.length≤1048576) (h:∀r∈l9,typL shEntry r) (hl1:l11.length≤1048576) (h1:∀r∈l11,typL shInt r) (hl2:l12.length≤1048576) (h2:∀r∈l12,typL shInt r) (hl3:l13.length≤1048576) (h3:∀r∈l13,typL shInt r) :
  t7 n1 n2 n3 n4 n5 n6 n7 n8 l9 n10 l11 l12 l13=some ([.one (.b (coreB n1 n2 n3 n4 n5 n6 n7 n8 l9 n10 l11 l12 l13))],[]):=by
 have ew:∀x,okR zr20 zo20 (some ([.one (.b x)],[]))=true:=fun _=>rfl
 have ew1:∀x,okR zr23 zo23 (some ([.one (.i .i64 x)],[]))=true:=fun _=>rfl
 have ew2:∀x,okR zr21 zo21 (some ([.one (.b x)],[]))=true:=fun _=>rfl
 have ew3:∀x,okR zr24 zo24 (some ([.one (.b x)],[]))=true:=fun _=>rfl
 have ew4:okR zr22 zo22 (some ([.agg [.i .i64 n3,.i .i64 n4,.i .i64 n7,.i .i64 n8,.s ⟨#[]⟩,.l l9]],[]))=true:=rfl
 have eb:∀x,asB (resC (some ([.one (.b x)],[])) 0 0)=x:=fun _=>rfl
 have ei:∀x,asI (resC (some ([.one (.i .i64 x)],[])) 0 0)=x:=fun _=>rfl
 have r0:asI (resC (some ([.agg [.i .i64 n3,.i .i64 n4,.i .i64 n7,.i .i64 n8,.s ⟨#[]⟩,.l l9]],[])) 0 0)=n3:=rfl
 have r1:asI (resC (some ([.agg [.i .i64 n3,.i .i64 n4,.i .i64 n7,.i .i64 n8,.s ⟨#[]⟩,.l l9]],[])) 0 1)=n4:=rfl
 have r2:asI (resC (some ([.agg [.i .i64 n3,.i .i64 n4,.i .i64 n7,.i .i64 n8,.s ⟨#[]⟩,.l l9]],[])) 0 2)=n7:=rfl
 have r3:asI (resC (some ([.agg [.i .i64 n3,.i .i64 n4,.i .i64 n7,.i .i64 n8,.s ⟨#[]⟩,.l l9]],[])) 0 3)=n8:=rfl
 have r4:asS (resC (some ([.agg [.i .i64 n3,.i .i64 n4,.i .i64 n7,.i .i64 n8,.s ⟨#[]⟩,.l l9]],[])) 0 4)=⟨#[]⟩:=rfl
 have r5:asL (resC (some ([.agg [.i .i64 n3,.i .i64 n4,.i .i64 n7,.i .i64 n8,.s ⟨#[]⟩,.l l9]],[])) 0 5)=l9:=rfl
 have ey:((!(decide (1≤n2)&&decide (n2≤5))||!(decide (0≤n1)&&decide (n1≤w64 (n2 - 1))))||((n7==0)&&(n8 != 0)))=!decide (1≤n2∧n2≤5∧0≤n1∧n1≤n2 - 1∧¬ (n7=0∧n8≠0)):=by
  by_cases hn:1≤n2∧n2≤5
  ·rw [w64_in (n2 - 1) (by omega),Bool.eq_iff_iff];simp;omega
  ·rw [Bool.eq_iff_iff];simp;omega
 unfold coreB
 by_cases hP:1≤n2∧n2≤5∧0≤n1∧n1≤n2 - 1∧¬ (n7=0∧n8≠0)
 ·rw [decide_eq_true hP] at ey ⊢
  have hk:=coreKept_spec n1 n2 n3 n4 n5 n6 n7 n8 l9 n10 l11 l12 l13 hP.2.2.2.2 hl h
  simp only [t7,ta7,in_eq,ew,ew1,ew2,ew3,eb,ei,ey,Bool.true_or,chk_true,hk,ew4,r0,r1,r2,r3,r4,r5,keptOk_spec _ _ _ _ _ l9 hl h,last_spec,in_spec l11 hl1 h1,Bool.not_true,Bool.not_false,if_true,Bool.false_or,Bool.true_and]
  generalize keptB n3 n4 n7 n8 ⟨#[]⟩ l9=K
  cases K
  ·simp only [Bool.not_false,Bool.true_or,if_true,Bool.false_and]
  simp only [Bool.not_true,Bool.false_or,Bool.true_and]
  have eq:(decide (n4 ≥ n2)||!(decide (n7≤n10)&&decide (n10≤w64 (n7+(l9.length:Int)))))=!decide (n4 < n2∧n7≤n10∧n10≤w64 (n7+(l9.length:Int))):=by
   rw [Bool.eq_iff_iff];simp<;>try omega
  by_cases hQ:n4 < n2∧n7≤n10∧n10≤w64 (n7+(l9.length:Int))
  rotate_left
  ·rw [decide_eq_false hQ] at eq ⊢
   simp only [eq,Bool.not_false,if_true,Bool.false_and]
  rw [decide_eq_true hQ] at eq ⊢
  simp only [eq,Bool.not_true,Bool.false_eq_true,if_false,Bool.true_and]
  unfold roleB
  by_cases k1:n5=1
  ·subst k1
   simp only [show ((1:Int)==1)=true from rfl,if_true]
   apply bool_some
   rw [w64_in (n2 - 1) (by omega),Bool.eq_iff_iff]
   simp [-List.length_eq_zero_iff];omega
  have j1:(n5==1)=false:=by simpa using k1
  by_cases k2:n5=2
  ·subst k2
   simp only [j1,k1,show ((2:Int)==2)=true from rfl,Bool.false_eq_true,if_false,if_true]
   refine Eq.trans (seek_loopS _ _ _ _ _ _ _ _ _ _ _ _ _ _ _ _ _ _ _ n2 _ _ _ _ _ _ _ _ _ _ _ (fun n123 b124 b125=>some ([.one (.b false)],[])) (fun n126 b127 v128=>some ([.one (.b (decide (n3 ≥ 1)&&n4==n1&&n6==-1&&!allB (noF l11 n1) l11.length 0&&decide (w64 (2 * (l11.length:Int))≤n2)&&(l12.length:Int)==0&&(l13.length:Int)==0))],[])) _ (fun _ _ _=>rfl) (fun _ _ _=>rfl) l11 h1 (by omega) l11.length 0 KK .undef .undef (by omega) (by rw [KK_eq];omega)) ?_
   apply bool_some
   generalize allB (seekF l11 n2) l11.length 0=r1
   generalize allB (noF l11 n1) l11.length 0=r2
   rw [w64_in (2 * (l11.length:Int)) (by omega)]
   cases r1<;>cases r2<;>(rw [Bool.eq_iff_iff];simp [-List.length_eq_zero_iff]<;>try omega)
  have j2:(n5==2)=false:=by simpa using k2
  by_cases k3:n5=3
  rotate_left
  ·have j3:(n5==3)=false:=by simpa using k3
   simp only [j1,k1,j2,k2,j3,k3,Bool.false_eq_true,if_false]
  subst k3
  simp only [j1,k1,j2,k2,show ((3:Int)==3)=true from rfl,Bool.false_eq_true,if_false,if_true]
  have ez:((((((decide (n3 < 1)||(n4 != n1))||(n6 != n1))||decide ((l11.length:Int) > 0))||((l12.length:Int) != n2))||((l13.length:Int) != n2)))=!decide (n3 ≥ 1∧n4=n1∧n6=n1∧l11.length=0∧(l12.length:Int)=n2∧(l13.length:Int)=n2):=by
   rw [Bool.eq_iff_iff];simp [-List.length_eq_zero_iff];omega
  by_cases hR:n3 ≥ 1∧n4=n1∧n6=n1∧l11.length=0∧(l12.length:Int)=n2∧(l13.length:Int)=n2
  rotate_left
  ·rw [decide_eq_false hR] at ez ⊢
   simp only [ez,Bool.not_false,Bool.not_true,Bool.or_true,Bool.true_or,chk_true,if_true,Bool.false_and]
  rw [decide_eq_true hR] at ez ⊢
  have hn1:n1.toNat < l13.length:=by omega
  have c1:(decide (0≤n1)&&decide (n1 < (l13.length:Int)))=true:=by simp;omega
  have c2:=row_in h3 _ int_row n1.toNat hn1
  simp only [ez,c1,c2,Bool.not_true,Bool.not_false,Bool.false_or,Bool.true_or,Bool.and_true,Bool.true_and,chk_true]
  by_cases hm:xI l13 n1.toNat=w64 (n7+(l9.length:Int))
  ·have c3:(asI (nthD (l13.getD n1.toNat []) 0) != w64 (n7+(l9.length:Int)))=false:=by simp only [bne_eq_false_iff_eq];exact hm
   simp only [c3,Bool.false_eq_true,if_false,decide_eq_true hm,Bool.true_and]
   have key:=lead_loopS n1 n2 n3 n4 3 n6 n7 n8 l9 n10 l11 l12 l13 false false 3 (3==1) (3==2) true false n1 n3 n4 3 n6 n7 n8 l9 n10 l11 l9 (fun n123 b124 b125=>some ([.one (.b false)],[])) (fun n247 b248 v249=>some ([.one (.b true)],[])) true (fun _ _ _=>rfl) (fun _ _ _=>rfl) l12 l13 h2 h3 (by omega) (by omega) l13.length 0 KK .undef .undef (by omega) (by rw [KK_eq];omega)
   rw [hR.2.2.2.2.2] at key
   refine Eq.trans key ?_
   simp only [Bool.and_true]
  ·have c3:(asI (nthD (l13.getD n1.toNat []) 0) != w64 (n7+(l9.length:Int)))=true:=by simp only [bne_iff_ne];exact hm
   simp only [c3,if_true,decide_eq_false hm,Bool.false_and]
 ·rw [decide_eq_false hP] at ey ⊢
  simp only [t7,ta7,in_eq,ew,ew1,eb,ei,ey,Bool.true_or,chk_true,last_spec,Bool.not_true,Bool.not_false,Bool.false_eq_true,if_false,Bool.false_and]
theorem kept_pos {t v si st:Int} {ss:ByteArray} {l:List (List D)} (h:keptB t v si st ss l=true):0≤si:=by
 unfold keptB keptA placeB at h
 simp only [Bool.and_eq_true,decide_eq_true_eq] at h
 omega
theorem coreB_eq (n1 n2 n3 n4 n5 n6 n7 n8:Int) (l9:List (List D)) (n10:Int) (l11 l12 l13:List (List D)):coreB n1 n2 n3 n4 n5 n6 n7 n8 l9 n10 l11 l12 l13 =
  (decide (1≤n2∧n2≤5∧0≤n1∧n1≤n2 - 1∧n4 < n2∧0≤n7∧¬ (n7=0∧n8≠0))&&(keptB n3 n4 n7 n8 ⟨#[]⟩ l9&&(decide (n7≤n10∧n10≤w64 (n7+(l9.length:Int)))&&roleB n1 n2 n3 n4 n5 n6 n7 l9 l11 l12 l13))):=by
 unfold coreB
 cases hk:keptB n3 n4 n7 n8 ⟨#[]⟩ l9
 ·simp
 ·have:=kept_pos hk
  generalize roleB n1 n2 n3 n4 n5 n6 n7 l9 l11 l12 l13=r
  rw [Bool.eq_iff_iff]
  cases r
  ·simp
  ·simp;omega
theorem most_eq (n1 n2 n3 n4 n5 n6 n7 n8:Int) (l9:List (List D)) (n10:Int) (l11 l12 l13:List (List D)) (n:Int):t66 n1 n2 n3 n4 n5 n6 n7 n8 l9 n10 l11 l12 l13 n=some ([.one (.b (decide (w64 (2 * n) > n2)))],[]):=rfl
theorem seekOk_eq (n1 n2 n3 n4 n5 n6 n7 n8:Int) (l9:List (List D)) (n10:Int) (l11 l12 l13:List (List D)) (hl1:l11.length≤1048576) (h1:∀r∈l11,typL shInt r) (hl2:l12.length≤1048576) (hl3:l13.length≤1048576) :
  t44 n1 n2 n3 n4 n5 n6 n7 n8 l9 n10 l11 l12 l13=some ([.one (.b (allB (seekF l11 n2) l11.length 0&&(decide (n3 ≥ 1∧n4=n1∧n6=-1∧2 * (l11.length:Int)≤n2∧l12.length=0∧l13.length=0)&&!(allB (noF l11 n1) l11.length 0))))],[]):=by
 have ew3:∀x,okR zr65 zo65 (some ([.one (.b x)],[]))=true:=fun _=>rfl
 have ew4:∀x,okR zr66 zo66 (some ([.one (.b x)],[]))=true:=fun _=>rfl
 have eb:∀x,asB (resC (some ([.one (.b x)],[])) 0 0)=x:=fun _=>rfl
 unfold t44 ta44
 simp only [in_impl l11 hl1 h1,most_eq,ew3,ew4,eb,Bool.true_or,chk_true]
 refine Eq.trans (seek_loopI n1 n2 n3 n4 n5 n6 n7 n8 l9 n10 l12 l13 false (fun n82 n83 b84 b85=>some ([.one (.b false)],[])) (fun v86 v87 n88 b89 v90=>some ([.one (.b ((((((decide (n3 ≥ 1))&&(n4==n1))&&(n6==-1))&&(!allB (noF l11 n1) l11.length 0))&&(!decide (w64 (2 * (l11.length:Int)) > n2)))&&(w64 ((l12.length:Int)+(l13.length:Int))==0)))],[])) _ (fun _ _ _ _=>rfl) (fun _ _ _ _ _=>rfl) l11 h1 (by omega) l11.length 0 KK .undef .undef .undef .undef (by omega) (by rw [KK_eq];omega)) ?_
 apply bool_some
 generalize allB (seekF l11 n2) l11.length 0=r1
 generalize allB (noF l11 n1) l11.length 0=r2
 rw [w64_in (2 * (l11.length:Int)) (by omega),w64_in ((l12.length:Int)+(l13.length:Int)) (by omega)]
 cases r1<;>cases r2<;>(rw [Bool.eq_iff_iff];simp [-List.length_eq_zero_iff]<;>try omega)
theorem leadOk_eq (n1 n2 n3 n4 n5 n6 n7 n8:Int) (l9:List (List D)) (n10:Int) (l11 l12 l13:List (List D)) (h01:0≤n1∧n1≤n2 - 1) (hl2:l12.length≤1048576) (h2:∀r∈l12,typL shInt r) (hl3:l13.length≤1048576) (h3:∀r∈l13,typL shInt r) :
  t45 n1 n2 n3 n4 n5 n6 n7 n8 l9 n10 l11 l12 l13=some ([.one (.b (decide (n3 ≥ 1∧n4=n1∧n6=n1∧l11.length=0∧(l12.length:Int)=n2∧(l13.length:Int)=n2)&&(decide (xI l13 n1.toNat=w64 (n7+(l9.length:Int)))&&allB (leadF l12 l13 (w64 (n7+(l9.length:Int)))) l13.length 0)))],[]):=by
 have ew1:∀x,okR zr43 zo43 (some ([.one (.i .i64 x)],[]))=true:=fun _=>rfl
 have ei:∀x,asI (resC (some ([.one (.i .i64 x)],[])) 0 0)=x:=fun _=>rfl
 have ez:((((((decide (n3 < 1)||(n4 != n1))||(n6 != n1))||decide ((l11.length:Int) > 0))||((l12.length:Int) != n2))||((l13.length:Int) != n2)))=!decide (n3 ≥ 1∧n4=n1∧n6=n1∧l11.length=0∧(l12.length:Int)=n2∧(l13.length:Int)=n2):=by
  rw [Bool.eq_iff_iff];simp [-List.length_eq_zero_iff];omega
 unfold t45 ta45
 by_cases hR:n3 ≥ 1∧n4=n1∧n6=n1∧l11.length=0∧(l12.length:Int)=n2∧(l13.length:Int)=n2
 ·rw [decide_eq_true hR] at ez ⊢
  have hn1:n1.toNat < l13.length:=by omega
  have c1:(decide (0≤n1)&&decide (n1 < (l13.length:Int)))=true:=by simp;omega
  have c2:=row_in h3 _ int_row n1.toNat hn1
  simp only [ez,c1,c2,last_impl,ew1,ei,Bool.not_true,Bool.false_eq_true,if_false,Bool.and_true,Bool.true_and,chk_true]
  refine Eq.trans (lead_loopI n1 n2 n3 n4 n5 n6 n7 n8 l9 n10 l11 l13 false false (fun n85 n86 b87 b88=>some ([.one (.b false)],[])) (fun v89 v90 n91 b92 v93=>some ([.one (.b (asI (nthD (l13.getD n1.toNat []) 0)==w64 (n7+(l9.length:Int))))],[])) _ (fun _ _ _ _=>rfl) (fun _ _ _ _ _=>rfl) l12 l13 h2 h3 (by omega) (by omega) l13.length 0 KK .undef .undef .undef .undef (by omega) (by rw [KK_eq];omega)) ?_
  apply bool_some
  rw [Bool.and_comm]
  congr 1
 ·rw [decide_eq_false hR] at ez ⊢
  simp only [ez,Bool.not_false,if_true,Bool.false_and]
theorem core_impl (n1 n2 n3 n4 n5 n6 n7 n8:Int) (l9:List (List D)) (n10:Int) (l11 l12 l13:List (List D)) (hl:l9.length≤1048576) (h:∀r∈l9,typL shEntry r) (hl1:l11.length≤1048576) (h1:∀r∈l11,typL shInt r) (hl2:l12.length≤1048576) (h2:∀r∈l12,typL shInt r) (hl3:l13.length≤1048576) (h3:∀r∈l13,typL shInt r) :
  t25 n1 n2 n3 n4 n5 n6 n7 n8 l9 n10 l11 l12 l13=some ([.one (.b (coreB n1 n2 n3 n4 n5 n6 n7 n8 l9 n10 l11 l12 l13))],[]):=by
 have ew:∀x,okR zr40 zo40 (some ([.one (.b x)],[]))=true:=fun _=>rfl
 have ew1:∀x,okR zr43 zo43 (some ([.one (.i .i64 x)],[]))=true:=fun _=>rfl
 have ew2:∀x,okR zr41 zo41 (some ([.one (.b x)],[]))=true:=fun _=>rfl
 have ew3:∀x,okR zr65 zo65 (some ([.one (.b x)],[]))=true:=fun _=>rfl
 have ew5:∀x,okR zr44 zo44 (some ([.one (.b x)],[]))=true:=fun _=>rfl
 have ew6:∀x,okR zr45 zo45 (some ([.one (.b x)],[]))=true:=fun _=>rfl
 have ew4:okR zr42 zo42 (some ([.agg [.i .i64 n3,.i .i64 n4,.i .i64 n7,.i .i64 n8,.s ⟨#[]⟩,.l l9]],[]))=true:=rfl
 have eb:∀x,asB (resC (some ([.one (.b x)],[])) 0 0)=x:=fun _=>rfl
 have ei:∀x,asI (resC (some ([.one (.i .i64 x)],[])) 0 0)=x:=fun _=>rfl
 have r0:asI (resC (some ([.agg [.i .i64 n3,.i .i64 n4,.i .i64 n7,.i .i64 n8,.s ⟨#[]⟩,.l l9]],[])) 0 0)=n3:=rfl
 have r1:asI (resC (some ([.agg [.i .i64 n3,.i .i64 n4,.i .i64 n7,.i .i64 n8,.s ⟨#[]⟩,.l l9]],[])) 0 1)=n4:=rfl
 have r2:asI (resC (some ([.agg [.i .i64 n3,.i .i64 n4,.i .i64 n7,.i .i64 n8,.s ⟨#[]⟩,.l l9]],[])) 0 2)=n7:=rfl
 have r3:asI (resC (some ([.agg [.i .i64 n3,.i .i64 n4,.i .i64 n7,.i .i64 n8,.s ⟨#[]⟩,.l l9]],[])) 0 3)=n8:=rfl
 have r4:asS (resC (some ([.agg [.i .i64 n3,.i .i64 n4,.i .i64 n7,.i .i64 n8,.s ⟨#[]⟩,.l l9]],[])) 0 4)=⟨#[]⟩:=rfl
 have r5:asL (resC (some ([.agg [.i .i64 n3,.i .i64 n4,.i .i64 n7,.i .i64 n8,.s ⟨#[]⟩,.l l9]],[])) 0 5)=l9:=rfl
 have ey:((((!(decide (1≤n2)&&decide (n2≤5))||!(decide (0≤n1)&&decide (n1≤w64 (n2 - 1))))||decide (n4 ≥ n2))||decide (n7 < 0))||((n7==0)&&(n8 != 0)))=!decide (1≤n2∧n2≤5∧0≤n1∧n1≤n2 - 1∧n4 < n2∧0≤n7∧¬ (n7=0∧n8≠0)):=by
  by_cases hn:1≤n2∧n2≤5
  ·rw [w64_in (n2 - 1) (by omega),Bool.eq_iff_iff];simp;omega
  ·rw [Bool.eq_iff_iff];simp;omega
 rw [coreB_eq]
 by_cases hP:1≤n2∧n2≤5∧0≤n1∧n1≤n2 - 1∧n4 < n2∧0≤n7∧¬ (n7=0∧n8≠0)
 ·rw [decide_eq_true hP] at ey ⊢
  have hk:=coreKept_impl n1 n2 n3 n4 n5 n6 n7 n8 l9 n10 l11 l12 l13 hP.2.2.2.2.2.2 hl h
  simp only [t25,ta25,within_eq,ew,ew1,ew2,ew3,eb,ei,ey,Bool.true_or,chk_true,hk,ew4,r0,r1,r2,r3,r4,r5,keptOk_impl _ _ _ _ _ l9 hl h,last_impl,seekOk_eq n1 n2 n3 n4 n5 n6 n7 n8 l9 n10 l11 l12 l13 hl1 h1 hl2 hl3,leadOk_eq n1 n2 n3 n4 n5 n6 n7 n8 l9 n10 l11 l12 l13 ⟨hP.2.2.1,hP.2.2.2.1⟩ hl2 h2 hl3 h3,ew5,ew6,Bool.not_true,Bool.not_false,if_true,Bool.false_or,Bool.true_and]
  generalize keptB n3 n4 n7 n8 ⟨#[]⟩ l9=K
  cases K
  ·simp only [Bool.not_false,Bool.true_or,if_true,Bool.false_and]
  simp only [Bool.not_true,Bool.false_or,Bool.true_and]
  have eq:(!(decide (n7≤n10)&&decide (n10≤w64 (n7+(l9.length:Int)))))=!decide (n7≤n10∧n10≤w64 (n7+(l9.length:Int))):=by
   rw [Bool.eq_iff_iff];simp
  by_cases hQ:n7≤n10∧n10≤w64 (n7+(l9.length:Int))
  rotate_left
  ·rw [decide_eq_false hQ] at eq ⊢
   simp only [eq,Bool.not_false,if_true,Bool.false_and]
  rw [decide_eq_true hQ] at eq ⊢
  simp only [eq,Bool.not_true,Bool.false_eq_true,if_false,Bool.true_and]
  unfold roleB
  by_cases k1:n5=1
  ·subst k1
   simp only [show ((1:Int)==1)=true from rfl,if_true]
   apply bool_some
   rw [w64_in (n2 - 1) (by omega),w64_in ((l11.length:Int)+(l12.length:Int)) (by omega),w64_in _ (by omega),Bool.eq_iff_iff]
   simp [-List.length_eq_zero_iff];omega
  have j1:(n5==1)=false:=by simpa using k1
  by_cases k2:n5=2
  ·subst k2
   simp only [j1,k1,show ((2:Int)==2)=true from rfl,Bool.false_eq_true,if_false,if_true]
  have j2:(n5==2)=false:=by simpa using k2
  by_cases k3:n5=3
  ·subst k3
   simp only [j1,k1,j2,k2,show ((3:Int)==3)=true from rfl,Bool.false_eq_true,if_false,if_true]
  ·have j3:(n5==3)=false:=by simpa using k3
   simp only [j1,k1,j2,k2,j3,k3,Bool.false_eq_true,if_false]
 ·rw [decide_eq_false hP] at ey ⊢
  simp only [t25,ta25,within_eq,ew,ew1,eb,ei,ey,Bool.true_or,chk_true,last_impl,Bool.not_true,Bool.not_false,Bool.false_eq_true,if_false,Bool.false_and]
end Go.Den.L4

/- Messages. -/
namespace Go.Den.L4
open Go
theorem sameEs_nil (l:List (List D)):t112 l []=some ([.one (.b (decide (l.length=0)))],[]):=by
 obtain ⟨k,hk⟩:∃k,KK=k+1:=⟨KK - 1,by rw [KK_eq]⟩
 unfold t112
 rw [hk]
 cases l with
 | nil=>simp [l112o1]
 | cons r l=>simp [bne];omega
theorem sameEi_nil (l:List (List D)):t80 l []=some ([.one (.b (decide (l.length=0)))],[]):=by
 obtain ⟨k,hk⟩:∃k,KK=k+1:=⟨KK - 1,by rw [KK_eq]⟩
 unfold t80
 rw [hk]
 cases l with
 | nil=>simp [l80o1]
 | cons r l=>simp [bne];omega
theorem sameEs_loop (b0 b1:Bool) (q1:Int→Bool→Bool→Rs) (q2:Int→Bool→SV→Rs) (h2:∀a b c,q2 a b c=some ([.one (.b true)],[])) (l:List (List D)) (h:∀r∈l,typL shEntry r) (hl:l.length < 4611686018427387904):∀(k i m:Nat) (v w:SV),i+k=l.length→k < m →
  l112o1 l l b0 b1 q1 q2 m i v w=some ([.one (.b true)],[]):=by
 intro k
 induction k with
 | zero =>
  intro i m v w e hm
  obtain ⟨m,rfl⟩:∃m',m=m' + 1:=⟨m - 1,by omega⟩
  have ei:decide ((i:Int) < (l.length:Int))=false:=by simp;omega
  simp only [l112o1,ei,h2]
  simp
 | succ k ih =>
  intro i m v w e hm
  obtain ⟨m,rfl⟩:∃m',m=m' + 1:=⟨m - 1,by omega⟩
  have e1:=nat_in (i:=i) (n:=l.length) (by omega)
  have ez:=row_in h _ entry_row i (by omega)
  simp only [l112o1,e1,nat_pos,Int.toNat_natCast,ez,BEq.rfl,Bool.and_true,chk_true,if_true,Bool.not_true,Bool.false_eq_true,if_false]
  rw [w64_succ i (by omega)]
  exact ih (i+1) m _ _ (by omega) (by omega)
theorem sameEs_self (l:List (List D)) (hl:l.length≤1048576) (h:∀r∈l,typL shEntry r):t112 l l=some ([.one (.b true)],[]):=by
 have:=sameEs_loop false false (fun _ _ _=>some ([.one (.b false)],[])) (fun _ _ _=>some ([.one (.b true)],[])) (fun _ _ _=>rfl) l h (by omega) l.length 0 KK .undef .undef (by omega) (by rw [KK_eq];omega)
 simpa [t112] using this
theorem sameEi_loop (b0 b1:Bool) (q1:Int→Bool→Bool→Rs) (q2:SV→Int→Bool→SV→Rs) (h2:∀a b c d,q2 a b c d=some ([.one (.b true)],[])) (l:List (List D)) (h:∀r∈l,typL shEntry r) (hl:l.length < 4611686018427387904):∀(k i m:Nat) (u v w:SV),i+k=l.length→k < m →
  l80o1 l l b0 b1 (l.length:Int) q1 q2 m u i v w=some ([.one (.b true)],[]):=by
 intro k
 induction k with
 | zero =>
  intro i m u v w e hm
  obtain ⟨m,rfl⟩:∃m',m=m' + 1:=⟨m - 1,by omega⟩
  have ei:decide ((i:Int) < (l.length:Int))=false:=by simp;omega
  simp only [l80o1,ei,h2]
  simp
 | succ k ih =>
  intro i m u v w e hm
  obtain ⟨m,rfl⟩:∃m',m=m' + 1:=⟨m - 1,by omega⟩
  have e1:=nat_in (i:=i) (n:=l.length) (by omega)
  have ez:=row_in h _ entry_row i (by omega)
  simp only [l80o1,e1,nat_pos,Int.toNat_natCast,ez,BEq.rfl,Bool.and_true,chk_true,if_true,Bool.not_true,Bool.false_eq_true,if_false]
  rw [w64_succ i (by omega)]
  exact ih (i+1) m _ _ _ (by omega) (by omega)
theorem sameEi_self (l:List (List D)) (hl:l.length≤1048576) (h:∀r∈l,typL shEntry r):t80 l l=some ([.one (.b true)],[]):=by
 have:=sameEi_loop false false (fun _ _ _=>some ([.one (.b false)],[])) (fun _ _ _ _=>some ([.one (.b true)],[])) (fun _ _ _ _=>rfl) l h (by omega) l.length 0 KK .undef .undef .undef (by omega) (by rw [KK_eq];omega)
 simpa [t80] using this
theorem run_loop (t:Int) (b0 b1:Bool) (q1:Int→Int→Bool→Bool→Rs) (q2:Int→Int→Bool→SV→Rs) (h1:∀a b c d,q1 a b c d=some ([.one (.b false)],[])) (h2:∀a b c d,q2 a b c d=some ([.one (.b true)],[])) (l:List (List D)) (h:∀r∈l,typL shEntry r) (hl:l.length < 4611686018427387904):∀(k i m:Nat) (p:Int) (v w:SV),i+k=l.length→k < m →
  la103o1 t20 l t b0 b1 q1 q2 m p i v w=some ([.one (.b (runB l t k i p))],[]):=by
 intro k
 induction k with
 | zero =>
  intro i m p v w e hm
  obtain ⟨m,rfl⟩:∃m',m=m' + 1:=⟨m - 1,by omega⟩
  have ei:decide ((i:Int) < (l.length:Int))=false:=by simp;omega
  simp only [la103o1,ei,h2,runB]
  simp
 | succ k ih =>
  intro i m p v w e hm
  obtain ⟨m,rfl⟩:∃m',m=m' + 1:=⟨m - 1,by omega⟩
  have e1:=nat_in (i:=i) (n:=l.length) (by omega)
  have ez:=row_in h _ entry_row i (by omega)
  have ew:∀x,okR zr20 zo20 (some ([.one (.b x)],[]))=true:=fun _=>rfl
  have eb:∀x,asB (resC (some ([.one (.b x)],[])) 0 0)=x:=fun _=>rfl
  simp only [la103o1,e1,nat_pos,Int.toNat_natCast,ez,in_eq,ew,eb,Bool.and_true,Bool.true_or,chk_true,if_true,runB]
  rw [w64_succ i (by omega)]
  by_cases g:p≤asI (nthD (l.getD i []) 0)∧asI (nthD (l.getD i []) 0)≤t∧((asS (nthD (l.getD i []) 1)).size:Int)≤1600
  ·have g1:(!(decide (p≤asI (nthD (l.getD i []) 0))&&decide (asI (nthD (l.getD i []) 0)≤t))||decide (((asS (nthD (l.getD i []) 1)).size:Int) > 1600))=false:=by
    simp only [Bool.or_eq_false_iff,Bool.not_eq_false',Bool.and_eq_true,decide_eq_false_iff_not,decide_eq_true_eq];omega
   simp only [g1,decide_eq_true g,Bool.true_and,Bool.false_eq_true,if_false]
   exact ih (i+1) m _ _ _ (by omega) (by omega)
  ·have g1:(!(decide (p≤asI (nthD (l.getD i []) 0))&&decide (asI (nthD (l.getD i []) 0)≤t))||decide (((asS (nthD (l.getD i []) 1)).size:Int) > 1600))=true:=by
    simp only [Bool.or_eq_true,Bool.not_eq_true',Bool.and_eq_false_iff,decide_eq_false_iff_not,decide_eq_true_eq];omega
   simp only [g1,if_true,h1,decide_eq_false g,Bool.false_and]
theorem run_spec (l:List (List D)) (hl:l.length≤1048576) (h:∀r∈l,typL shEntry r) (p t:Int):t103 l p t=some ([.one (.b (runB l t l.length 0 (if p < 1 then 1 else p)))],[]):=by
 have:=fun q=>run_loop t false (decide (p < 1)) (fun _ _ _ _=>some ([.one (.b false)],[])) (fun _ _ _ _=>some ([.one (.b true)],[])) (fun _ _ _ _=>rfl) (fun _ _ _ _=>rfl) l h (by omega) l.length 0 KK q .undef .undef (by omega) (by rw [KK_eq];omega)
 by_cases g:p < 1
 ·simpa [t103,ta103,g] using this 1
 ·simpa [t103,ta103,g] using this p
theorem batch_loop (n1 n2 n3 n4 n5 n6 n7:Int) (b8:Bool) (l9:List (List D)) (s10:ByteArray) (b0:Bool) (q1:Int→Int→Bool→Bool→Int→ByteArray→Rs) (q2:Int→Int→Bool→SV→Rs) (g:Bool) (h1:∀a b c d e f,q1 a b c d e f=some ([.one (.b false)],[])) (h2:∀a b c d,q2 a b c d=some ([.one (.b g)],[])) (l:List (List D)) (h:∀r∈l,typL shEntry r) (hl:l.length < 4611686018427387904):∀(k i m:Nat) (p:Int) (v w:SV),i+k=l.length→k < m →
  la68o0 t40 n1 n2 n3 n4 n5 n6 n7 b8 l9 s10 b0 l (l.length:Int) q1 q2 m p i v w=some ([.one (.b (runB l n4 k i p&&g))],[]):=by
 intro k
 induction k with
 | zero =>
  intro i m p v w e hm
  obtain ⟨m,rfl⟩:∃m',m=m' + 1:=⟨m - 1,by omega⟩
  have ei:decide ((i:Int) < (l.length:Int))=false:=by simp;omega
  simp only [la68o0,ei,h2,runB]
  simp
 | succ k ih =>
  intro i m p v w e hm
  obtain ⟨m,rfl⟩:∃m',m=m' + 1:=⟨m - 1,by omega⟩
  have e1:=nat_in (i:=i) (n:=l.length) (by omega)
  have ez:=row_in h _ entry_row i (by omega)
  have ew:∀x,okR zr40 zo40 (some ([.one (.b x)],[]))=true:=fun _=>rfl
  have eb:∀x,asB (resC (some ([.one (.b x)],[])) 0 0)=x:=fun _=>rfl
  simp only [la68o0,e1,nat_pos,Int.toNat_natCast,ez,within_eq,ew,eb,Bool.and_true,Bool.true_or,chk_true,if_true,runB]
  rw [w64_succ i (by omega)]
  by_cases g':p≤asI (nthD (l.getD i []) 0)∧asI (nthD (l.getD i []) 0)≤n4∧((asS (nthD (l.getD i []) 1)).size:Int)≤1600
  ·have g1:(decide (((asS (nthD (l.getD i []) 1)).size:Int) > 1600)||!(decide (p≤asI (nthD (l.getD i []) 0))&&decide (asI (nthD (l.getD i []) 0)≤n4)))=false:=by
    simp only [Bool.or_eq_false_iff,Bool.not_eq_false',Bool.and_eq_true,decide_eq_false_iff_not,decide_eq_true_eq];omega
   simp only [g1,decide_eq_true g',Bool.true_and,Bool.false_eq_true,if_false]
   exact ih (i+1) m _ _ _ (by omega) (by omega)
  ·have g1:(decide (((asS (nthD (l.getD i []) 1)).size:Int) > 1600)||!(decide (p≤asI (nthD (l.getD i []) 0))&&decide (asI (nthD (l.getD i []) 0)≤n4)))=true:=by
    simp only [Bool.or_eq_true,Bool.not_eq_true',Bool.and_eq_false_iff,decide_eq_false_iff_not,decide_eq_true_eq];omega
   simp only [g1,if_true,h1,decide_eq_false g',Bool.false_and]
theorem batch_impl (n1 n2 n3 n4 n5 n6 n7:Int) (b8:Bool) (l:List (List D)) (s10:ByteArray) (hl:l.length≤1048576) (h:∀r∈l,typL shEntry r):t68 n1 n2 n3 n4 n5 n6 n7 b8 l s10=some ([.one (.b (runB l n4 l.length 0 (if n6 < 1 then 1 else n6)&&(decide ((l.length:Int)≤4)&&decide (w64 (n5+(l.length:Int))≤100000))))],[]):=by
 have:=batch_loop n1 n2 n3 n4 n5 n6 n7 b8 l s10 false (fun _ _ _ _ _ _=>some ([.one (.b false)],[])) (fun _ _ _ _=>some ([.one (.b (decide ((l.length:Int)≤4)&&decide (w64 (n5+(l.length:Int))≤100000)))],[])) _ (fun _ _ _ _ _ _=>rfl) (fun _ _ _ _=>rfl) l h (by omega) l.length 0 KK (if n6 < 1 then 1 else n6) .undef .undef (by omega) (by rw [KK_eq];omega)
 have e:(if n6 > 1 then n6 else 1)=(if n6 < 1 then 1 else n6):=by split<;>split<;>omega
 unfold t68 ta68
 rw [e]
 exact this
theorem same_spec {n1 n2 n3 n4 n5 n6 n7:Int} {b8:Bool} {l9:List (List D)} {s10:ByteArray} {m1 m2 m3 m4 m5 m6 m7:Int} {c8:Bool} {k9:List (List D)} {r10:ByteArray} {e:Bool} (h:t112 l9 k9=some ([.one (.b e)],[])) :
  t104 n1 n2 n3 n4 n5 n6 n7 b8 l9 s10 m1 m2 m3 m4 m5 m6 m7 c8 k9 r10=some ([.one (.b (n1==m1&&(n2==m2&&(n3==m3&&(n4==m4&&(n5==m5&&(n6==m6&&(n7==m7&&(b8==c8&&(e&&(s10.toList==r10.toList))))))))))) ],[]):=by
 simp only [t104,ta104,h,zr112,zo112,okR,isVs,isV,isD,isOs,resC,nthR,cellsDV,nthD,asB,Bool.and_true,chk_true]
 split
 ·apply bool_some
  rename_i g
  cases e
  ·simp
  ·simp at g
   simp
   intro a1 a2 a3 a4 a5 a6 a7 a8 a9
   simp_all
 ·apply bool_some
  rename_i g
  simp at g
  obtain ⟨⟨⟨⟨⟨⟨⟨⟨g1,g2⟩,g3⟩,g4⟩,g5⟩,g6⟩,g7⟩,g8⟩,g9⟩:=g
  simp [g1,g2,g3,g4,g5,g6,g7,g8,g9]
theorem same_impl {n1 n2 n3 n4 n5 n6 n7:Int} {b8:Bool} {l9:List (List D)} {s10:ByteArray} {m1 m2 m3 m4 m5 m6 m7:Int} {c8:Bool} {k9:List (List D)} {r10:ByteArray} {e:Bool} (h:t80 l9 k9=some ([.one (.b e)],[])) :
  t69 n1 n2 n3 n4 n5 n6 n7 b8 l9 s10 m1 m2 m3 m4 m5 m6 m7 c8 k9 r10=some ([.one (.b (n1==m1&&(n2==m2&&(n3==m3&&(n4==m4&&(n5==m5&&(n6==m6&&(n7==m7&&(b8==c8&&(e&&(s10.toList==r10.toList))))))))))) ],[]):=by
 simp only [t69,ta69,h,zr80,zo80,okR,isVs,isV,isD,isOs,resC,nthR,cellsDV,nthD,asB,Bool.and_true,Bool.true_or,chk_true,Bool.and_assoc]
theorem server_eq (a:Int):t102 a=some ([.one (.b (decide (0≤a)&&decide (a≤4)))],[]):=rfl
def msgOk (n1 n2 n3 n4 n5 n6 n7:Int) (b8:Bool) (l9:List (List D)) (s10:ByteArray):Bool :=
  (((decide (0≤n2)&&decide (n2≤4))&&(decide (0≤n3)&&decide (n3≤4)))&&(n2 != n3))&&((decide (1≤n4)&&decide (n4≤100000)) &&
  (if n1=1 then placeB n5 n6&&(decide (n6≤n4∧n7=0∧l9.length=0∧(s10.size:Int)=0)&&!b8)
   else if n1=2 then decide (n5=0∧n6=0∧n7=0∧l9.length=0∧(s10.size:Int)=0)
   else if n1=3 then placeB n5 n6&&(decide (n6≤n4∧0≤n7∧n7≤100000∧l9.length≤4∧w64 (n5+(l9.length:Int))≤100000∧(s10.size:Int)=0)&&(!b8&&runB l9 n4 l9.length 0 (if n6 < 1 then 1 else n6)))
   else if n1=4 then decide (0≤n5∧n5≤100000∧n6=0∧n7=0∧l9.length=0∧(s10.size:Int)=0)
   else if n1=5 then decide (1≤n5∧n5≤100000∧1≤n6∧n6≤n4∧n7=0∧l9.length=0∧(s10.size:Int)≤20000)&&!b8
   else false))
theorem msgOk_spec (n1 n2 n3 n4 n5 n6 n7:Int) (b8:Bool) (l9:List (List D)) (s10:ByteArray) (hl:l9.length≤1048576) (h:∀r∈l9,typL shEntry r):t84 n1 n2 n3 n4 n5 n6 n7 b8 l9 s10=some ([.one (.b (msgOk n1 n2 n3 n4 n5 n6 n7 b8 l9 s10))],[]):=by
 simp only [t84,ta84,server_eq,in_eq,place_spec,same_spec (sameEs_nil l9),same_spec (sameEs_self l9 hl h),run_spec l9 hl h,zr102,zo102,zr20,zo20,zr39,zo39,zr104,zo104,zr103,zo103,okR,isVs,isV,isD,isOs,resC,nthR,cellsDV,nthD,asB,Bool.and_true,Bool.true_or,chk_true]
 unfold msgOk
 generalize runB l9 n4 l9.length 0 (if n6 < 1 then 1 else n6)=ru
 generalize placeB n5 n6=pl
 generalize (((decide (0≤n2)&&decide (n2≤4))&&(decide (0≤n3)&&decide (n3≤4)))&&(n2 != n3))=sv
 generalize (decide (1≤n4)&&decide (n4≤100000))=tm
 cases sv
 ·simp only [Bool.false_and,Bool.false_eq_true,if_false,Bool.not_false,Bool.or_true,chk_true]
  (repeat' split)<;>rfl
 cases tm
 ·simp only [Bool.and_false,Bool.false_and,Bool.true_and,Bool.false_eq_true,if_false,if_true,Bool.not_false,Bool.or_true,chk_true]
  (repeat' split)<;>rfl
 simp only [Bool.true_and,if_true]
 by_cases k1:n1=1
 ·subst k1
  simp only [show ((1:Int)==1)=true from rfl,if_true]
  cases ru<;>cases pl<;>cases b8<;>(apply bool_some;rw [Bool.eq_iff_iff];simp [-ByteArray.size_eq_zero_iff,-List.length_eq_zero_iff];try omega)
 have j1:(n1==1)=false:=by simpa using k1
 by_cases k2:n1=2
 ·subst k2
  simp only [j1,k1,show ((2:Int)==2)=true from rfl,Bool.false_eq_true,if_false,if_true]
  cases ru<;>cases pl<;>cases b8<;>(apply bool_some;rw [Bool.eq_iff_iff];simp [-ByteArray.size_eq_zero_iff,-List.length_eq_zero_iff];try omega)
 have j2:(n1==2)=false:=by simpa using k2
 by_cases k3:n1=3
 ·subst k3
  simp only [j1,k1,j2,k2,show ((3:Int)==3)=true from rfl,Bool.false_eq_true,if_false,if_true]
  cases ru<;>cases pl<;>cases b8<;>(apply bool_some;rw [Bool.eq_iff_iff];simp [-ByteArray.size_eq_zero_iff,-List.length_eq_zero_iff];try omega)
 have j3:(n1==3)=false:=by simpa using k3
 by_cases k4:n1=4
 ·subst k4
  simp only [j1,k1,j2,k2,j3,k3,show ((4:Int)==4)=true from rfl,Bool.false_eq_true,if_false,if_true]
  cases ru<;>cases pl<;>cases b8<;>(apply bool_some;rw [Bool.eq_iff_iff];simp [-ByteArray.size_eq_zero_iff,-List.length_eq_zero_iff];try omega)
 have j4:(n1==4)=false:=by simpa using k4
 by_cases k5:n1=5
 ·subst k5
  simp only [j1,k1,j2,k2,j3,k3,j4,k4,show ((5:Int)==5)=true from rfl,Bool.false_eq_true,if_false,if_true]
  cases ru<;>cases pl<;>cases b8<;>(apply bool_some;rw [Bool.eq_iff_iff];simp [-ByteArray.size_eq_zero_iff,-List.length_eq_zero_iff];try omega)
 have j5:(n1==5)=false:=by simpa using k5
 simp only [j1,k1,j2,k2,j3,k3,j4,k4,j5,k5,Bool.false_eq_true,if_false,Bool.false_and,Bool.not_false,Bool.or_true,chk_true]
theorem msgOk_impl (n1 n2 n3 n4 n5 n6 n7:Int) (b8:Bool) (l9:List (List D)) (s10:ByteArray) (hl:l9.length≤1048576) (h:∀r∈l9,typL shEntry r):t47 n1 n2 n3 n4 n5 n6 n7 b8 l9 s10=some ([.one (.b (msgOk n1 n2 n3 n4 n5 n6 n7 b8 l9 s10))],[]):=by
 simp only [t47,ta47,within_eq,place_impl,same_impl (sameEi_nil l9),same_impl (sameEi_self l9 hl h),batch_impl _ _ _ _ _ _ _ _ l9 _ hl h,zr40,zo40,zr67,zo67,zr69,zo69,zr68,zo68,okR,isVs,isV,isD,isOs,resC,nthR,cellsDV,nthD,asB,Bool.and_true,Bool.true_or,chk_true]
 unfold msgOk
 generalize runB l9 n4 l9.length 0 (if n6 < 1 then 1 else n6)=ru
 generalize placeB n5 n6=pl
 generalize (((decide (0≤n2)&&decide (n2≤4))&&(decide (0≤n3)&&decide (n3≤4)))&&(n2 != n3))=sv
 generalize (decide (1≤n4)&&decide (n4≤100000))=tm
 cases sv
 ·simp only [Bool.false_and,Bool.false_eq_true,if_false,Bool.not_false,Bool.or_true,chk_true]
  (repeat' split)<;>rfl
 cases tm
 ·simp only [Bool.and_false,Bool.false_and,Bool.true_and,Bool.false_eq_true,if_false,if_true,Bool.not_false,Bool.or_true,chk_true]
  (repeat' split)<;>rfl
 simp only [Bool.true_and,if_true]
 by_cases k1:n1=1
 ·subst k1
  simp only [show ((1:Int)==1)=true from rfl,if_true]
  cases ru<;>cases pl<;>cases b8<;>(apply bool_some;rw [Bool.eq_iff_iff];simp [-ByteArray.size_eq_zero_iff,-List.length_eq_zero_iff];try omega)
 have j1:(n1==1)=false:=by simpa using k1
 by_cases k2:n1=2
 ·subst k2
  simp only [j1,k1,show ((2:Int)==2)=true from rfl,Bool.false_eq_true,if_false,if_true]
  cases ru<;>cases pl<;>cases b8<;>(apply bool_some;rw [Bool.eq_iff_iff];simp [-ByteArray.size_eq_zero_iff,-List.length_eq_zero_iff];try omega)
 have j2:(n1==2)=false:=by simpa using k2
 by_cases k3:n1=3
 ·subst k3
  simp only [j1,k1,j2,k2,show ((3:Int)==3)=true from rfl,Bool.false_eq_true,if_false,if_true]
  cases ru<;>cases pl<;>cases b8<;>(apply bool_some;rw [Bool.eq_iff_iff];simp [-ByteArray.size_eq_zero_iff,-List.length_eq_zero_iff];try omega)
 have j3:(n1==3)=false:=by simpa using k3
 by_cases k4:n1=4
 ·subst k4
  simp only [j1,k1,j2,k2,j3,k3,show ((4:Int)==4)=true from rfl,Bool.false_eq_true,if_false,if_true]
  cases ru<;>cases pl<;>cases b8<;>(apply bool_some;rw [Bool.eq_iff_iff];simp [-ByteArray.size_eq_zero_iff,-List.length_eq_zero_iff];try omega)
 have j4:(n1==4)=false:=by simpa using k4
 by_cases k5:n1=5
 ·subst k5
  simp only [j1,k1,j2,k2,j3,k3,j4,k4,show ((5:Int)==5)=true from rfl,Bool.false_eq_true,if_false,if_true]
  cases ru<;>cases pl<;>cases b8<;>(apply bool_some;rw [Bool.eq_iff_iff];simp [-ByteArray.size_eq_zero_iff,-List.length_eq_zero_iff];try omega)
 have j5:(n1==5)=false:=by simpa using k5
 simp only [j1,k1,j2,k2,j3,k3,j4,k4,j5,k5,Bool.false_eq_true,if_false,Bool.false_and,Bool.not_false,Bool.or_true,chk_true]
end Go.Den.L4

/- Cores made, cut. -/
namespace Go.Den.L4
open Go
theorem int_flat {l:List (List D)} (h:∀r∈l,typL shInt r):flatR 1 l=true:=flat_of fun r hr=>by
 obtain ⟨a,rfl⟩:=Int_row (h r hr);rfl
theorem coreB_place {n1 n2 n3 n4 n5 n6 n7 n8:Int} {l9:List (List D)} {n10:Int} {l11 l12 l13:List (List D)} (h:coreB n1 n2 n3 n4 n5 n6 n7 n8 l9 n10 l11 l12 l13=true):0≤n7∧n7≤n10∧n10≤n7+(l9.length:Int)∧n7≤100000∧(l9.length:Int)≤60:=by
 rw [coreB_eq] at h
 simp only [Bool.and_eq_true,decide_eq_true_eq] at h
 obtain ⟨h1,h2,h3,_⟩:=h
 have h4:keptA n3 n4 n7 n8 ⟨#[]⟩ l9=true:=by
  unfold keptB at h2
  rw [Bool.and_eq_true] at h2
  exact h2.1
 unfold keptA at h4
 rw [Bool.and_eq_true] at h4
 have h5:=of_decide_eq_true h4.1
 have h6:n7≤100000:=by omega
 rw [w64_in (n7+(l9.length:Int)) (by omega)] at h3
 omega
end Go.Den.L4

/- What a leader sends; how it counts. -/
namespace Go.Den.L4
open Go
def trm (n7 n8:Int) (l9:List (List D)) (i:Int):Int:=if i=n7 then n8 else asI (nthD (l9.getD (i - n7 - 1).toNat []) 0)
theorem term_spec (n1 n2 n3 n4 n5 n6 n7 n8:Int) (l9:List (List D)) (n10:Int) (l11 l12 l13:List (List D)) (h:∀r∈l9,typL shEntry r) (hl:l9.length≤100) (h7:0≤n7∧n7≤200000) (i:Int) (hi:n7≤i∧i≤n7+(l9.length:Int)) :
  t37 n1 n2 n3 n4 n5 n6 n7 n8 l9 n10 l11 l12 l13 i=some ([.one (.i .i64 (trm n7 n8 l9 i))],[]):=by
 unfold t37 trm
 by_cases g:i=n7
 ·subst g;simp
 ·have q:(i==n7)=false:=by simpa using g
  have hlt:(i - n7 - 1).toNat < l9.length:=by omega
  have e1:(decide (0≤i - n7 - 1)&&decide (i - n7 - 1 < (l9.length:Int)))=true:=by simp;omega
  simp only [q,Bool.false_eq_true,if_false,if_neg g]
  rw [w64_in (i - n7) (by omega),w64_in (i - n7 - 1) (by omega),e1,row_in h _ entry_row _ hlt]
  rfl
theorem term_impl (n1 n2 n3 n4 n5 n6 n7 n8:Int) (l9:List (List D)) (n10:Int) (l11 l12 l13:List (List D)) (h:∀r∈l9,typL shEntry r) (hl:l9.length≤100) (h7:0≤n7∧n7≤200000) (i:Int) (hi:n7≤i∧i≤n7+(l9.length:Int)) :
  t70 n1 n2 n3 n4 n5 n6 n7 n8 l9 n10 l11 l12 l13 i=some ([.one (.i .i64 (trm n7 n8 l9 i))],[]):=by
 unfold t70 trm
 by_cases g:i=n7
 ·subst g;simp
 ·have q:(i==n7)=false:=by simpa using g
  have hlt:(i - n7 - 1).toNat < l9.length:=by omega
  have e1:(decide (0≤i - n7 - 1)&&decide (i - n7 - 1 < (l9.length:Int)))=true:=by simp;omega
  simp only [q,Bool.false_eq_true,if_false,if_neg g]
  rw [w64_in (i - n7) (by omega),w64_in (i - n7 - 1) (by omega),e1,row_in h _ entry_row _ hlt]
  rfl
theorem entry_eta {r:List D} (h:typL shEntry r):[D.i .i64 (asI (nthD r 0)),.s (asS (nthD r 1))]=r:=by
 obtain ⟨a,b,rfl,_⟩:=Entry_row h;rfl
theorem to_loop {n64 n65 n66 n67 n68 n69 n70 n71:Int} {l72:List (List D)} {n73:Int} {l74 l75 l76:List (List D)} {n77:Int} {b80:Bool} {n82 n83 n84 n85 n86 n87 n89 n91:Int} {l92 l93 l94:List (List D)} {n95 n96 n97 n98 n99 n100 n101:Int} {b102:Bool} {s103:ByteArray} {n104 n105 n106 n107 n108 n109 n110:Int} {b111:Bool} {s112:ByteArray} (nx n7:Int) (l9:List (List D)) (q:Int→Bool→List (List D)→Rs) (R:List (List D)→Rs) (hq:∀a b l,q a b l=R l) (h:∀r∈l9,typL shEntry r) (hl:l9.length≤100) (h7:0≤n7∧n7≤200000) (hx:n7 < nx∧nx≤n7+(l9.length:Int)+1):∀(k j m:Nat) (v:SV),k+j=4→k < m→j≤(l9.drop (nx - 1 - n7).toNat).length →
  la61o1 t23 t37 n64 n65 n66 n67 n68 n69 n70 n71 l72 n73 l74 l75 l76 n77 nx b80 n82 n83 n84 n85 n86 n87 n7 n89 l9 n91 l92 l93 l94 n95 n96 n97 n98 n99 n100 n101 b102 s103 n104 n105 n106 n107 n108 n109 n110 b111 s112 q m (nx+(j:Int)) v ((l9.drop (nx - 1 - n7).toNat).take j)=R ((l9.drop (nx - 1 - n7).toNat).take 4):=by
 intro k
 have eL:(l9.drop (nx - 1 - n7).toNat).length=l9.length - (nx - 1 - n7).toNat:=List.length_drop
 induction k with
 | zero =>
  intro j m v e hm hj
  obtain ⟨m,rfl⟩:∃m',m=m' + 1:=⟨m - 1,by omega⟩
  have ew1:∀x,okR zr23 zo23 (some ([.one (.i .i64 x)],[]))=true:=fun _=>rfl
  have ei:∀x,asI (resC (some ([.one (.i .i64 x)],[])) 0 0)=x:=fun _=>rfl
  have e4:j=4:=by omega
  subst e4
  have c:(decide (nx+((4:Nat):Int)≤w64 (n7+(l9.length:Int)))&&decide (nx+((4:Nat):Int) < w64 (nx+4)))=false:=by
   rw [w64_in (nx+4) (by omega)];simp
  simp only [la61o1,last_spec,ew1,ei,c,chk_true,Bool.false_eq_true,if_false,hq]
 | succ k ih =>
  intro j m v e hm hj
  obtain ⟨m,rfl⟩:∃m',m=m' + 1:=⟨m - 1,by omega⟩
  have ew1:∀x,okR zr23 zo23 (some ([.one (.i .i64 x)],[]))=true:=fun _=>rfl
  have ei:∀x,asI (resC (some ([.one (.i .i64 x)],[])) 0 0)=x:=fun _=>rfl
  by_cases g:j < (l9.drop (nx - 1 - n7).toNat).length
  ·have c:(decide (nx+(j:Int)≤w64 (n7+(l9.length:Int)))&&decide (nx+(j:Int) < w64 (nx+4)))=true:=by
    rw [w64_in (nx+4) (by omega),w64_in (n7+_) (by omega)];simp;omega
   have hlt:(nx+(j:Int) - n7 - 1).toNat < l9.length:=by omega
   have e1:(decide (0≤nx+(j:Int) - n7 - 1)&&decide (nx+(j:Int) - n7 - 1 < (l9.length:Int)))=true:=by simp;omega
   have er:=getD_row h hlt
   have et:(l9.drop (nx - 1 - n7).toNat).take j++[l9.getD (nx+(j:Int) - n7 - 1).toNat []]=(l9.drop (nx - 1 - n7).toNat).take (j+1):=by
    have e3:(nx+(j:Int) - n7 - 1).toNat=(nx - 1 - n7).toNat+j:=by omega
    rw [e3] at hlt ⊢
    rw [List.take_succ_eq_append_getElem g,getD_in hlt]
    simp
   have ef:flatR 2 [l9.getD (nx+(j:Int) - n7 - 1).toNat []]=true:=entry_flat (fun r hr=>by rw [List.mem_singleton] at hr;rw [hr];exact er)
   have el:decide (((l9.drop (nx - 1 - n7).toNat).take j).length + [l9.getD (nx+(j:Int) - n7 - 1).toNat []].length≤lim)=true:=decide_eq_true (by
    have:((l9.drop (nx - 1 - n7).toNat).take j).length≤j:=by simp;omega
    simp only [List.length_singleton];unfold lim;omega)
   simp only [la61o1,last_spec,ew1,ei,c,chk_true,if_true]
   rw [w64_in (nx+(j:Int) - n7) (by omega),w64_in (nx+(j:Int) - n7 - 1) (by omega),e1,row_in h _ entry_row _ hlt,entry_eta er,ef,el,et]
   rw [w64_in (nx+(j:Int)+1) (by omega)]
   have:=ih (j+1) m (.d (.b true)) (by omega) (by omega) (by omega)
   rw [show nx+(j:Int)+1=nx+((j+1:Nat):Int) by omega]
   simpa only [Bool.and_self,Bool.and_true,chk_true] using this
  ·have c:(decide (nx+(j:Int)≤w64 (n7+(l9.length:Int)))&&decide (nx+(j:Int) < w64 (nx+4)))=false:=by
    rw [w64_in (nx+4) (by omega),w64_in (n7+_) (by omega)];simp;omega
   have e5:(l9.drop (nx - 1 - n7).toNat).take j=(l9.drop (nx - 1 - n7).toNat).take 4:=by
    rw [List.take_of_length_le (by omega),List.take_of_length_le (by omega)]
   simp only [la61o1,last_spec,ew1,ei,c,chk_true,Bool.false_eq_true,if_false,hq,e5]
def msgD (n1 n3 n7 n8:Int) (l9:List (List D)) (n10:Int) (l12:List (List D)) (p:Nat):List D :=
 if xI l12 p≤n7 then [.i .i64 5,.i .i64 n1,.i .i64 p,.i .i64 n3,.i .i64 n7,.i .i64 n8,.i .i64 0,.b false,.l [],.s ⟨#[]⟩]
 else [.i .i64 3,.i .i64 n1,.i .i64 p,.i .i64 n3,.i .i64 (xI l12 p - 1),.i .i64 (trm n7 n8 l9 (xI l12 p - 1)),.i .i64 n10,.b false,.l ((l9.drop (xI l12 p - 1 - n7).toNat).take 4),.s ⟨#[]⟩]
/-- The numbers fit. -/
structure Fit (n7:Int) (l9 l12:List (List D)):Prop where
 h:∀r∈l9,typL shEntry r
 hl:l9.length≤100
 h7:0≤n7∧n7≤200000
 h12:∀r∈l12,typL shInt r
 nx:∀p,p < l12.length→xI l12 p≤n7+(l9.length:Int)+1
 l12:l12.length≤5
theorem lo_int {l:List (List D)} (h:∀r∈l,typL shInt r) (p:Nat) (hp:p < l.length):-9223372036854775808≤xI l p∧xI l p≤9223372036854775807:=by
 obtain ⟨_,_,e,⟨x,rfl,hw⟩,rfl⟩:=getD_row h hp
 unfold xI
 rw [e]
 show -9223372036854775808≤x∧x≤9223372036854775807
 have hw:(decide (IntKind.i64.min≤x)&&decide (x≤IntKind.i64.max))=true:=hw
 rw [show IntKind.i64.min=-9223372036854775808 from rfl,show IntKind.i64.max=9223372036854775807 from rfl] at hw
 simpa using hw
theorem send_spec (n1 n2 n3 n4 n5 n6 n7 n8:Int) (l9:List (List D)) (n10:Int) (l11 l12 l13:List (List D)) (F:Fit n7 l9 l12) (p:Nat) (hp:p < l12.length) :
  t61 n1 n2 n3 n4 n5 n6 n7 n8 l9 n10 l11 l12 l13 (p:Int)=some ([.agg (msgD n1 n3 n7 n8 l9 n10 l12 p)],[]):=by
 obtain ⟨h,hl,h7,h12,hnx,hl2⟩:=F
 have ew1:∀x,okR zr37 zo37 (some ([.one (.i .i64 x)],[]))=true:=fun _=>rfl
 have ei:∀x,asI (resC (some ([.one (.i .i64 x)],[])) 0 0)=x:=fun _=>rfl
 have e1:=nat_in (i:=p) (n:=l12.length) hp
 have hx:=hnx p hp
 have hlo:=lo_int h12 p hp
 unfold t61 ta61 msgD
 simp only [e1,nat_pos,Int.toNat_natCast,row_in h12 _ int_row p hp,Bool.and_true,chk_true]
 by_cases g:xI l12 p≤n7
 ·rw [if_pos g,if_pos (decide_eq_true g)]
 ·rw [if_neg g,if_neg (by rw [decide_eq_false g];simp)]
  have e2:w64 (asI (nthD (l12.getD p []) 0) - 1)=xI l12 p - 1:=w64_in _ (by show _≤xI l12 p - 1∧xI l12 p - 1≤_;omega)
  simp only [e2,term_spec n1 n2 n3 n4 n5 n6 n7 n8 l9 n10 l11 l12 l13 h hl h7 (xI l12 p - 1) ⟨by omega,by omega⟩,ew1,ei,chk_true]
  have:=to_loop (n64:=n1) (n65:=n2) (n66:=n3) (n67:=n4) (n68:=n5) (n69:=n6) (n70:=n7) (n71:=n8) (l72:=l9) (n73:=n10) (l74:=l11) (l75:=l12) (l76:=l13) (n77:=(p:Int)) (b80:=decide (asI (nthD (l12.getD p []) 0)≤n7)) (n82:=n1) (n83:=n2) (n84:=n3) (n85:=n4) (n86:=n5) (n87:=n6) (n89:=n8) (n91:=n10) (l92:=l11) (l93:=l12) (l94:=l13) (n95:=0) (n96:=0) (n97:=0) (n98:=0) (n99:=0) (n100:=0) (n101:=0) (b102:=false) (s103:=⟨#[]⟩) (n104:=3) (n105:=n1) (n106:=(p:Int)) (n107:=n3) (n108:=xI l12 p - 1) (n109:=trm n7 n8 l9 (xI l12 p - 1)) (n110:=n10) (b111:=false) (s112:=⟨#[]⟩)
   (xI l12 p) n7 l9 (fun n167 b168 l169=>some ([.agg [.i .i64 (3:Int),.i .i64 n1,.i .i64 (p:Int),.i .i64 n3,.i .i64 (xI l12 p - 1),.i .i64 (trm n7 n8 l9 (xI l12 p - 1)),.i .i64 n10,.b false,.l l169,.s (⟨#[]⟩:ByteArray)]],[])) _ (fun _ _ _=>rfl) h hl h7 ⟨by omega,by omega⟩ 4 0 KK .undef rfl (by rw [KK_eq];omega) (Nat.zero_le _)
  simpa only [Int.natCast_zero,Int.add_zero,List.take_zero] using this
theorem send_impl (n1 n2 n3 n4 n5 n6 n7 n8:Int) (l9:List (List D)) (n10:Int) (l11 l12 l13:List (List D)) (F:Fit n7 l9 l12) (p:Nat) (hp:p < l12.length) :
    t74 n1 n2 n3 n4 n5 n6 n7 n8 l9 n10 l11 l12 l13 (p:Int)=some ([.agg (msgD n1 n3 n7 n8 l9 n10 l12 p)],[]):=by
  obtain ⟨h,hl,h7,h12,hnx,hl2⟩:=F
  have ew1:∀x,okR zr70 zo70 (some ([.one (.i .i64 x)],[]))=true:=fun _=>rfl
  have ei:∀x,asI (resC (some ([.one (.i .i64 x)],[])) 0 0)=x:=fun _=>rfl
  have e1:=nat_in (i:=p) (n:=l12.length) hp
  have hx:=hnx p hp
  have hlo:=lo_int h12 p hp
  unfold t74 ta74 msgD
  simp only [e1,nat_pos,Int.toNat_natCast,row_in h12 _ int_row p hp,Bool.and_true,chk_true]
  by_cases g:xI l12 p≤n7
  · rw [if_pos g,if_pos (decide_eq_true g)]
  · rw [if_neg g,if_neg (by rw [decide_eq_false g];simp)]
    have e2:w64 (asI (nthD (l12.getD p []) 0) - 1)=xI l12 p - 1:=w64_in _ (by show _≤xI l12 p - 1∧xI l12 p - 1≤_;omega)
    have e3:w64 (xI l12 p - 1 - n7)=xI l12 p - 1 - n7:=w64_in _ (by omega)
    have z1:∀l:List (List D),(∀r∈l,typL shEntry r)→(l.getD 0 z38).length=(z38:List D).length:=fun l hh=>by
      cases l with
      | nil=>rfl
      | cons r b=>obtain ⟨a,c,rfl,_⟩:=Entry_row (hh r (by simp));rfl
    have hd:∀r∈l9.drop (xI l12 p - 1 - n7).toNat,typL shEntry r:=fun r hr=>h r (List.mem_of_mem_drop hr)
    have eL:(l9.drop (xI l12 p - 1 - n7).toNat).length=l9.length - (xI l12 p - 1 - n7).toNat:=List.length_drop
    have f1:decide (0≤xI l12 p - 1 - n7∧xI l12 p - 1 - n7≤(l9.length:Int)∧(l9.getD 0 z38).length=(z38:List D).length)=true:=decide_eq_true ⟨by omega,by omega,z1 _ h⟩
    simp only [e2,e3,term_impl n1 n2 n3 n4 n5 n6 n7 n8 l9 n10 l11 l12 l13 h hl h7 (xI l12 p - 1) ⟨by omega,by omega⟩,ew1,ei,chk_true,f1]
    generalize l9.drop (xI l12 p - 1 - n7).toNat=L at hd eL
    have hy:(if decide (((L.length:Nat):Int) < 4)=true then ((L.length:Nat):Int) else 4)=((min L.length 4:Nat):Int):=by
      by_cases g4:((L.length:Nat):Int) < 4
      · rw [if_pos (by simpa using g4)];omega
      · rw [if_neg (by simpa using g4)];omega
    have hy':(if ((L.length:Nat):Int) < 4 then ((L.length:Nat):Int) else 4)=((min L.length 4:Nat):Int):=by
      by_cases g4:((L.length:Nat):Int) < 4
      · rw [if_pos g4];omega
      · rw [if_neg g4];omega
    simp only [hy,hy',Int.toNat_natCast]
    have f2:decide (0≤(0:Int)∧(0:Int)≤((min L.length 4:Nat):Int)∧((min L.length 4:Nat):Int)≤(L.length:Int)∧(L.getD 0 z38).length=(z38:List D).length)=true:=decide_eq_true ⟨by omega,by omega,by omega,z1 _ hd⟩
    have e6:(L.take (min L.length 4)).drop (0:Int).toNat=L.take 4:=by
      show (L.take (min L.length 4)).drop 0=_
      rw [List.drop_zero]
      by_cases g4:L.length≤4
      · rw [Nat.min_eq_left g4,List.take_of_length_le (Nat.le_refl _),List.take_of_length_le g4]
      · rw [Nat.min_eq_right (by omega)]
    have f3:(flatR 2 (L.take 4)&&decide ((L.take 4).length≤lim))=true:=by
      rw [entry_flat (fun r hr=>hd r (List.mem_of_mem_take hr))]
      simp only [Bool.true_and]
      exact decide_eq_true (by have:(L.take 4).length≤4:=by simp;omega
                               unfold lim;omega)
    rw [f2]
    simp only [chk_true,e6]
    rw [f3]
    rfl
/-- All but one. -/
def gat (f:Nat→List D) (id:Int):Nat→Nat→List (List D)
 | 0,_=>[]
 | k+1,i=>if (i:Int)=id then gat f id k (i+1) else f i :: gat f id k (i+1)
theorem gat_len (f:Nat→List D) (id:Int):∀k i,(gat f id k i).length≤k
 | 0,i=>Nat.le_refl _
 | k+1,i=>by
  simp only [gat]
  have:=gat_len f id k (i+1)
  split
  ·omega
  ·simp only [List.length_cons];omega
theorem gat_mem (f:Nat→List D) (id:Int):∀k i r,r∈gat f id k i→∃p,i≤p∧p < i+k∧r=f p
 | 0,i,r,h=>by cases h
 | k+1,i,r,h=>by
  simp only [gat] at h
  split at h
  ·obtain ⟨p,h1,h2,h3⟩:=gat_mem f id k (i+1) r h;exact ⟨p,by omega,by omega,h3⟩
  ·rcases List.mem_cons.1 h with rfl | h
   ·exact ⟨i,Nat.le_refl _,by omega,rfl⟩
   ·obtain ⟨p,h1,h2,h3⟩:=gat_mem f id k (i+1) r h;exact ⟨p,by omega,by omega,h3⟩
theorem gat_map (f:Nat→List D) (g:Nat→List D) (F:List D→List D) (hF:∀p,F (f p)=g p) (id:Int):∀k i,(gat f id k i).map F=gat g id k i
 | 0,i=>rfl
 | k+1,i=>by
  simp only [gat]
  split
  ·exact gat_map f g F hF id k (i+1)
  ·simp only [List.map_cons,hF,gat_map f g F hF id k (i+1)]
theorem all_spec_loop {n43 n44 n45 n46 n47 n48 n49 n50:Int} {l51:List (List D)} {n52:Int} {l53 l54 l55:List (List D)} {n62 n63 n64:Int} {l69 l71:List (List D)} (n1 n2 n3 n7 n8:Int) (l9:List (List D)) (n10:Int) (l12:List (List D)) (q:Int→Bool→SV→List (List D)→Rs) (R:List (List D)→Rs) (hq:∀a b c d,q a b c d=R d) (F:Fit n7 l9 l12) (N:Nat) (hN:n2=(N:Int)) (hlen:l12.length=N):∀(k i m:Nat) (v w:SV) (acc:List (List D)),i+k=N→k < m→acc.length≤i →
  la33o0 t61 n43 n44 n45 n46 n47 n48 n49 n50 l51 n52 l53 l54 l55 n1 n2 n3 n62 n63 n64 n7 n8 l9 n10 l69 l12 l71 q m (i:Int) v w acc=R (acc++gat (msgD n1 n3 n7 n8 l9 n10 l12) n1 k i):=by
 have h5:=F.l12
 intro k
 induction k with
 | zero =>
  intro i m v w acc e hm ha
  obtain ⟨m,rfl⟩:∃m',m=m' + 1:=⟨m - 1,by omega⟩
  have c:decide ((i:Int) < n2)=false:=by rw [hN];simp;omega
  simp only [la33o0,c,Bool.false_eq_true,if_false,hq,gat,List.append_nil]
 | succ k ih =>
  intro i m v w acc e hm ha
  obtain ⟨m,rfl⟩:∃m',m=m' + 1:=⟨m - 1,by omega⟩
  have c:decide ((i:Int) < n2)=true:=by rw [hN];simp;omega
  have hw:=w64_succ i (by omega)
  by_cases g:(i:Int)=n1
  ·have q1:((i:Int) != n1)=false:=by simpa using g
   simp only [la33o0,c,q1,if_true,Bool.false_eq_true,if_false,hw,gat,if_pos g]
   exact ih (i+1) m _ _ acc (by omega) (by omega) (by omega)
  ·have q1:((i:Int) != n1)=true:=by simpa using g
   have es:=fun a4 a5 a6 a11 a13=>send_spec n1 n2 n3 a4 a5 a6 n7 n8 l9 n10 a11 l12 a13 F i (by omega)
   have eok:okR zr61 zo61 (some ([.agg (msgD n1 n3 n7 n8 l9 n10 l12 i)],[]))=true:=by unfold msgD;split<;>rfl
   have eta:([[.i .i64 (asI (resC (some ([.agg (msgD n1 n3 n7 n8 l9 n10 l12 i)],[])) 0 0)),.i .i64 (asI (resC (some ([.agg (msgD n1 n3 n7 n8 l9 n10 l12 i)],[])) 0 1)),.i .i64 (asI (resC (some ([.agg (msgD n1 n3 n7 n8 l9 n10 l12 i)],[])) 0 2)),.i .i64 (asI (resC (some ([.agg (msgD n1 n3 n7 n8 l9 n10 l12 i)],[])) 0 3)),.i .i64 (asI (resC (some ([.agg (msgD n1 n3 n7 n8 l9 n10 l12 i)],[])) 0 4)),.i .i64 (asI (resC (some ([.agg (msgD n1 n3 n7 n8 l9 n10 l12 i)],[])) 0 5)),.i .i64 (asI (resC (some ([.agg (msgD n1 n3 n7 n8 l9 n10 l12 i)],[])) 0 6)),.b (asB (resC (some ([.agg (msgD n1 n3 n7 n8 l9 n10 l12 i)],[])) 0 7)),.l (asL (resC (some ([.agg (msgD n1 n3 n7 n8 l9 n10 l12 i)],[])) 0 8)),.s (asS (resC (some ([.agg (msgD n1 n3 n7 n8 l9 n10 l12 i)],[])) 0 9))]]:List (List D))=[msgD n1 n3 n7 n8 l9 n10 l12 i]:=by unfold msgD;split<;>rfl
   have el:decide (acc.length + [msgD n1 n3 n7 n8 l9 n10 l12 i].length≤lim)=true:=decide_eq_true (by simp only [List.length_singleton];unfold lim;omega)
   simp only [la33o0,c,q1,if_true,es,eok,eta,el,Bool.true_and,chk_true,hw,gat,if_neg g]
   have:=ih (i+1) m (.d (.b true)) (.d (.b true)) (acc++[msgD n1 n3 n7 n8 l9 n10 l12 i]) (by omega) (by omega) (by simp;omega)
   rw [List.append_assoc] at this
   exact this
theorem all_spec (n1 n2 n3 n4 n5 n6 n7 n8:Int) (l9:List (List D)) (n10:Int) (l11 l12 l13:List (List D)) (F:Fit n7 l9 l12) (N:Nat) (hN:n2=(N:Int)) (hlen:l12.length=N) :
  t33 n1 n2 n3 n4 n5 n6 n7 n8 l9 n10 l11 l12 l13=some ([.one (.l (gat (msgD n1 n3 n7 n8 l9 n10 l12) n1 N 0))],[]):=by
 unfold t33 ta33
 have h5:=F.l12
 exact all_spec_loop n1 n2 n3 n7 n8 l9 n10 l12 _ (fun l=>some ([.one (.l l)],[])) (fun _ _ _ _=>rfl) F N hN hlen N 0 KK .undef .undef [] (by omega) (by rw [KK_eq];omega) (Nat.le_refl _)
theorem oth_loop {n32 n33 n34 n35 n36 n37 n38:Int} {l39:List (List D)} {n40:Int} {l41 l42 l43:List (List D)} (n1 n2:Int) (q:SV→Int→Bool→SV→List (List D)→Rs) (R:List (List D)→Rs) (hq:∀a b c d e,q a b c d e=R e) (N:Nat) (hN:n2=(N:Int)) (h5:N≤5):∀(k i m:Nat) (u v w:SV) (acc:List (List D)),i+k=N→k < m→acc.length≤i →
  l75o0 n1 n32 n33 n34 n35 n36 n37 n38 l39 n40 l41 l42 l43 n2 q m u (i:Int) v w acc=R (acc++gat (fun p=>[.i .i64 (p:Int)]) n1 k i):=by
 intro k
 induction k with
 | zero =>
  intro i m u v w acc e hm ha
  obtain ⟨m,rfl⟩:∃m',m=m' + 1:=⟨m - 1,by omega⟩
  have c:decide ((i:Int) < n2)=false:=by rw [hN];simp;omega
  simp only [l75o0,c,Bool.false_eq_true,if_false,hq,gat,List.append_nil]
 | succ k ih =>
  intro i m u v w acc e hm ha
  obtain ⟨m,rfl⟩:∃m',m=m' + 1:=⟨m - 1,by omega⟩
  have c:decide ((i:Int) < n2)=true:=by rw [hN];simp;omega
  have hw:=w64_succ i (by omega)
  by_cases g:(i:Int)=n1
  ·have q1:((i:Int) != n1)=false:=by simpa using g
   simp only [l75o0,c,q1,if_true,Bool.false_eq_true,if_false,hw,gat,if_pos g]
   exact ih (i+1) m _ _ _ acc (by omega) (by omega) (by omega)
  ·have q1:((i:Int) != n1)=true:=by simpa using g
   have ef:flatR 1 [[D.i .i64 (i:Int)]]=true:=rfl
   have el:decide (acc.length + [[D.i .i64 (i:Int)]].length≤lim)=true:=decide_eq_true (by simp only [List.length_singleton];unfold lim;omega)
   simp only [l75o0,c,q1,if_true,ef,el,Bool.true_and,chk_true,hw,gat,if_neg g]
   have:=ih (i+1) m (.d (.i .i64 (i:Int))) (.d (.b true)) (.d (.b true)) (acc++[[.i .i64 (i:Int)]]) (by omega) (by omega) (by simp;omega)
   rw [List.append_assoc] at this
   exact this
theorem others_eq (n1 n2 n3 n4 n5 n6 n7 n8:Int) (l9:List (List D)) (n10:Int) (l11 l12 l13:List (List D)) (N:Nat) (hN:n2=(N:Int)) (h5:N≤5) :
  t75 n1 n2 n3 n4 n5 n6 n7 n8 l9 n10 l11 l12 l13=some ([.one (.l (gat (fun p=>[.i .i64 (p:Int)]) n1 N 0))],[]):=by
 unfold t75
 exact oth_loop n1 n2 _ (fun l=>some ([.one (.l l)],[])) (fun _ _ _ _ _=>rfl) N hN h5 N 0 KK .undef .undef .undef [] (by omega) (by rw [KK_eq];omega) (Nat.le_refl _)
def isP (N:Nat) (r:List D):Prop:=∃p:Nat,p < N∧r=[.i .i64 (p:Int)]
theorem all_impl_loop {n32 n34 n35 n36:Int} {l41 l43:List (List D)} (n1 n3 n7 n8:Int) (l9:List (List D)) (n10:Int) (l12:List (List D)) (O:List (List D)) (q:SV→Int→Bool→List (List D)→Rs) (R:List (List D)→Rs) (hq:∀a b c d,q a b c d=R d) (F:Fit n7 l9 l12) (hO:O.length≤5):∀(b a:List (List D)) (m:Nat) (v w:SV) (acc:List (List D)),O=a++b→(∀r∈b,isP l12.length r)→b.length < m→acc.length≤a.length →
  la59o0 t74 t75 n1 n32 n3 n34 n35 n36 n7 n8 l9 n10 l41 l12 l43 (O.length:Int) O q m v (a.length:Int) w acc=R (acc++b.map fun r=>msgD n1 n3 n7 n8 l9 n10 l12 (asI (nthD r 0)).toNat):=by
 intro b
 induction b with
 | nil =>
  intro a m v w acc e hb hm ha
  subst e
  obtain ⟨m,rfl⟩:∃m',m=m' + 1:=⟨m - 1,by omega⟩
  have c:decide ((a.length:Int) < (a.length:Int))=false:=by simp
  simp only [la59o0,List.append_nil,c,Bool.false_eq_true,if_false,hq,List.map_nil,List.append_nil]
 | cons r b ih =>
  intro a m v w acc e hb hm ha
  subst e
  obtain ⟨m,rfl⟩:∃m',m=m' + 1:=⟨m - 1,by omega⟩
  obtain ⟨p,hp,rfl⟩:=hb r (by simp)
  simp only [List.length_cons] at hm
  rw [List.length_append,List.length_cons] at hO
  have c:decide ((a.length:Int) < ((a++[D.i .i64 (p:Int)] :: b).length:Int))=true:=by simp;omega
  have c0:decide (0≤(a.length:Int))=true:=by simp
  have eg:(a++[D.i .i64 (p:Int)] :: b).getD a.length []=[.i .i64 (p:Int)]:=getD_mid a b _ _ rfl
  have ez:(decide (1≤([D.i .i64 (p:Int)]:List D).length)&&isF z3 0 [D.i .i64 (p:Int)])=true:=rfl
  have ea:asI (nthD [D.i .i64 (p:Int)] 0)=(p:Int):=rfl
  have hw:=w64_succ a.length (by omega)
  have es:=fun a2 a4 a5 a6 a11 a13=>send_impl n1 a2 n3 a4 a5 a6 n7 n8 l9 n10 a11 l12 a13 F p hp
  have eok:okR zr74 zo74 (some ([.agg (msgD n1 n3 n7 n8 l9 n10 l12 p)],[]))=true:=by unfold msgD;split<;>rfl
  have eta:([[.i .i64 (asI (resC (some ([.agg (msgD n1 n3 n7 n8 l9 n10 l12 p)],[])) 0 0)),.i .i64 (asI (resC (some ([.agg (msgD n1 n3 n7 n8 l9 n10 l12 p)],[])) 0 1)),.i .i64 (asI (resC (some ([.agg (msgD n1 n3 n7 n8 l9 n10 l12 p)],[])) 0 2)),.i .i64 (asI (resC (some ([.agg (msgD n1 n3 n7 n8 l9 n10 l12 p)],[])) 0 3)),.i .i64 (asI (resC (some ([.agg (msgD n1 n3 n7 n8 l9 n10 l12 p)],[])) 0 4)),.i .i64 (asI (resC (some ([.agg (msgD n1 n3 n7 n8 l9 n10 l12 p)],[])) 0 5)),.i .i64 (asI (resC (some ([.agg (msgD n1 n3 n7 n8 l9 n10 l12 p)],[])) 0 6)),.b (asB (resC (some ([.agg (msgD n1 n3 n7 n8 l9 n10 l12 p)],[])) 0 7)),.l (asL (resC (some ([.agg (msgD n1 n3 n7 n8 l9 n10 l12 p)],[])) 0 8)),.s (asS (resC (some ([.agg (msgD n1 n3 n7 n8 l9 n10 l12 p)],[])) 0 9))]]:List (List D))=[msgD n1 n3 n7 n8 l9 n10 l12 p]:=by unfold msgD;split<;>rfl
  have el:decide (acc.length + [msgD n1 n3 n7 n8 l9 n10 l12 p].length≤lim)=true:=decide_eq_true (by simp only [List.length_singleton];unfold lim;omega)
  simp only [la59o0,c,c0,Int.toNat_natCast,eg,ez,ea,if_true,es,eok,eta,el,Bool.true_and,chk_true,hw]
  have hO2:(a++[D.i .i64 (p:Int)] :: b)=(a++[[D.i .i64 (p:Int)]])++b:=by simp
  have:=ih (a++[[D.i .i64 (p:Int)]]) m (.d (.i .i64 (p:Int))) (.d (.b true)) (acc++[msgD n1 n3 n7 n8 l9 n10 l12 p]) hO2 (fun r hr=>hb r (by simp [hr])) (by omega) (by simp;omega)
  have e3:(a++[[D.i .i64 (p:Int)]]).length=a.length+1:=by simp
  rw [e3,List.append_assoc] at this
  exact this
theorem all_impl (n1 n2 n3 n4 n5 n6 n7 n8:Int) (l9:List (List D)) (n10:Int) (l11 l12 l13:List (List D)) (F:Fit n7 l9 l12) (N:Nat) (hN:n2=(N:Int)) (hlen:l12.length=N) :
  t59 n1 n2 n3 n4 n5 n6 n7 n8 l9 n10 l11 l12 l13=some ([.one (.l (gat (msgD n1 n3 n7 n8 l9 n10 l12) n1 N 0))],[]):=by
 unfold t59 ta59
 have h5:=F.l12
 have ew:∀x,okR zr75 zo75 (some ([.one (.l x)],[]))=true:=fun _=>rfl
 have el:∀x,asL (resC (some ([.one (.l x)],[])) 0 0)=x:=fun _=>rfl
 simp only [others_eq n1 n2 n3 n4 n5 n6 n7 n8 l9 n10 l11 l12 l13 N hN (by omega),ew,el,chk_true]
 have hg:=gat_len (fun p=>[D.i .i64 (p:Int)]) n1 N 0
 have:=all_impl_loop (n32:=n2) (n34:=n4) (n35:=n5) (n36:=n6) (l41:=l11) (l43:=l13) n1 n3 n7 n8 l9 n10 l12 (gat (fun p=>[D.i .i64 (p:Int)]) n1 N 0) (fun v73 n74 b75 l76=>some ([.one (.l l76)],[])) (fun l=>some ([.one (.l l)],[])) (fun _ _ _ _=>rfl) F (by omega) (gat (fun p=>[D.i .i64 (p:Int)]) n1 N 0) [] KK .undef .undef [] rfl (fun r hr=>by
  obtain ⟨p,_,h2,rfl⟩:=gat_mem _ _ _ _ _ hr
  exact ⟨p,by omega,rfl⟩) (by rw [KK_eq];omega) (Nat.le_refl _)
 rw [gat_map _ (msgD n1 n3 n7 n8 l9 n10 l12) _ (fun p=>by simp [nthD,asI])] at this
 exact this
theorem coreB_more {n1 n2 n3 n4 n5 n6 n7 n8:Int} {l9:List (List D)} {n10:Int} {l11 l12 l13:List (List D)} (h:coreB n1 n2 n3 n4 n5 n6 n7 n8 l9 n10 l11 l12 l13=true):1≤n2∧n2≤5∧0≤n1∧n1≤n2 - 1∧0≤n3∧n3≤100000∧n8≤n3∧placeB n7 n8=true∧n7+(l9.length:Int)≤100000∧0≤n7∧n7≤n10∧n10≤n7+(l9.length:Int)∧(l9.length:Int)≤60∧roleB n1 n2 n3 n4 n5 n6 n7 l9 l11 l12 l13=true:=by
 obtain ⟨p1,p2,p3,p4,p5⟩:=coreB_place h
 rw [coreB_eq] at h
 simp only [Bool.and_eq_true,decide_eq_true_eq] at h
 obtain ⟨h1,h2,h3,h4⟩:=h
 unfold keptB at h2
 rw [Bool.and_eq_true] at h2
 have h5:=h2.1
 unfold keptA at h5
 rw [Bool.and_eq_true] at h5
 have h6:=of_decide_eq_true h5.1
 rw [w64_in (n7+(l9.length:Int)) (by omega)] at h6
 exact ⟨by omega,by omega,by omega,by omega,by omega,by omega,by omega,h5.2,by omega,by omega,by omega,by omega,by omega,h4⟩
theorem allB_get {f:Nat→Bool}:∀(k i:Nat),allB f k i=true→∀p,i≤p→p < i+k→f p=true
 | 0,i,_,p,h1,h2=>by omega
 | k+1,i,h,p,h1,h2=>by
  simp only [allB,Bool.and_eq_true] at h
  by_cases e:p=i
  ·subst e;exact h.1
  ·exact allB_get k (i+1) h.2 p (by omega) (by omega)
/-- Of a leader. -/
theorem lead_more {n1 n2 n3 n4 n6 n7 n8:Int} {l9:List (List D)} {n10:Int} {l11 l12 l13:List (List D)} (h:coreB n1 n2 n3 n4 3 n6 n7 n8 l9 n10 l11 l12 l13=true):(l12.length:Int)=n2∧(l13.length:Int)=n2∧∀p,p < l12.length→xI l12 p≤n7+(l9.length:Int)+1∧0≤xI l13 p∧xI l13 p < xI l12 p:=by
 obtain ⟨a1,a2,a3,a4,a5,a6,a7,a8,a9,a10,a11,a12,a13,a14⟩:=coreB_more h
 unfold roleB at a14
 rw [if_neg (by decide),if_neg (by decide),if_pos rfl] at a14
 simp only [Bool.and_eq_true,decide_eq_true_eq] at a14
 obtain ⟨b1,b2,b3⟩:=a14
 refine ⟨b1.2.2.2.2.1,b1.2.2.2.2.2,fun p hp=>?_⟩
 have:=allB_get _ _ b3 p (Nat.zero_le _) (by omega)
 unfold leadF at this
 rw [w64_in (n7+(l9.length:Int)) (by omega),w64_in _ (by omega)] at this
 have:=of_decide_eq_true this
 omega
theorem int_typ {x:Int} (h:-9223372036854775808≤x∧x≤9223372036854775807):typD (.i .i64) (.i .i64 x):=by
 refine ⟨x,rfl,?_⟩
 show (decide (IntKind.i64.min≤x)&&decide (x≤IntKind.i64.max))=true
 rw [show IntKind.i64.min=-9223372036854775808 from rfl,show IntKind.i64.max=9223372036854775807 from rfl]
 simpa using h
theorem entry_lo {l:List (List D)} (h:∀r∈l,typL shEntry r) (p:Nat) (hp:p < l.length):-9223372036854775808≤asI (nthD (l.getD p []) 0)∧asI (nthD (l.getD p []) 0)≤9223372036854775807:=by
 obtain ⟨_,_,e,⟨x,rfl,hw⟩,_⟩:=getD_row h hp
 rw [e]
 show -9223372036854775808≤x∧x≤9223372036854775807
 have hw:(decide (IntKind.i64.min≤x)&&decide (x≤IntKind.i64.max))=true:=hw
 rw [show IntKind.i64.min=-9223372036854775808 from rfl,show IntKind.i64.max=9223372036854775807 from rfl] at hw
 simpa using hw
theorem trm_lo {n7 n8:Int} {l9:List (List D)} (h:∀r∈l9,typL shEntry r) (h8:-9223372036854775808≤n8∧n8≤9223372036854775807) {i:Int} (hi:n7≤i∧i≤n7+(l9.length:Int)):-9223372036854775808≤trm n7 n8 l9 i∧trm n7 n8 l9 i≤9223372036854775807:=by
 unfold trm
 split
 ·exact h8
 ·exact entry_lo h _ (by omega)
theorem copy_spec (x1 x2 x3 x4 x5 x6 x7 x8:Int) (x9:List (List D)) (x10:Int) (x11 x12 x13:List (List D)) (hl:x9.length≤1048576) (h:∀r∈x9,typL shEntry r) (hl1:x11.length≤1048576) (h1:∀r∈x11,typL shInt r) (hl2:x12.length≤1048576) (h2:∀r∈x12,typL shInt r) (hl3:x13.length≤1048576) (h3:∀r∈x13,typL shInt r) :
  t31 x1 x2 x3 x4 x5 x6 x7 x8 x9 x10 x11 x12 x13=some ([.agg [.i .i64 x1,.i .i64 x2,.i .i64 x3,.i .i64 x4,.i .i64 x5,.i .i64 x6,.i .i64 x7,.i .i64 x8,.l x9,.i .i64 x10,.l x11,.l x12,.l x13]],[]):=by
 have li0:∀{n:Nat},n≤1048576→decide (([]:List (List D)).length+n≤lim)=true:=fun h=>decide_eq_true (by simp only [List.length_nil];unfold lim;omega)
 unfold t31
 rw [entry_flat h,int_flat h1,int_flat h2,int_flat h3,li0 hl,li0 hl1,li0 hl2,li0 hl3]
 rfl
theorem copy_impl (x1 x2 x3 x4 x5 x6 x7 x8:Int) (x9:List (List D)) (x10:Int) (x11 x12 x13:List (List D)) (hl:x9.length≤1048576) (h:∀r∈x9,typL shEntry r) (hl1:x11.length≤1048576) (h1:∀r∈x11,typL shInt r) (hl2:x12.length≤1048576) (h2:∀r∈x12,typL shInt r) (hl3:x13.length≤1048576) (h3:∀r∈x13,typL shInt r) :
  t26 x1 x2 x3 x4 x5 x6 x7 x8 x9 x10 x11 x12 x13=some ([.agg [.i .i64 x1,.i .i64 x2,.i .i64 x3,.i .i64 x4,.i .i64 x5,.i .i64 x6,.i .i64 x7,.i .i64 x8,.l x9,.i .i64 x10,.l x11,.l x12,.l x13]],[]):=by
 have li:∀{n:Nat},n≤1048576→decide (n≤lim)=true:=fun h=>decide_eq_true (by unfold lim;omega)
 have ci:∀l:List (List D),l.length≤1048576→(∀r∈l,typL shInt r)→t46 l=some ([.one (.l l)],[]):=fun l a b=>by
  unfold t46;rw [int_flat b,li a];rfl
 unfold t26 ta26
 rw [entry_flat h,li hl,ci x11 hl1 h1,ci x12 hl2 h2,ci x13 hl3 h3]
 rfl
end Go.Den.L4

/- A leader counts; takes an entry; leads. -/
namespace Go.Den.L4
open Go
/-- How many are at i at least. -/
def many (M:List (List D)) (i:Int):Nat→Nat→Int
 | 0,_=>0
 | k+1,p=>(if xI M p ≥ i then 1 else 0)+many M i k (p+1)
theorem cnt_loopS {n242 n243 n244 n245 n246 n247 n248 n249 n250:Int} {b254:Bool} {n258 n260 n261 n262 n263 n264 n265 n266 n267 n268 n269 n270 n271 n272 n273 n274 n275:Int} {l276 l277 l278:List (List D)} (i n2:Int) (M:List (List D)) (h:∀r∈M,typL shInt r) (hM:(M.length:Int)=n2) (h5:M.length≤5) (q:Int→Int→Bool→SV→SV→Rs) (R:Int→Rs) (hq:∀a b c d e,0≤a→a≤10→q a b c d e=R a):∀(k p m:Nat) (c:Int) (u v w:SV),p+k=M.length→k < m→0≤c→c≤(p:Int) →
  la60o2 t23 t37 n242 n243 n244 n245 n246 n247 n248 n249 n250 i b254 n258 n2 n260 n261 n262 n263 n264 n265 n266 n267 n268 n269 n270 n271 n272 n273 n274 n275 l276 l277 l278 M q m c (p:Int) u v w=R (c+many M i k p):=by
 intro k
 induction k with
 | zero =>
  intro p m c u v w e hm h0 h1
  obtain ⟨m,rfl⟩:∃m',m=m' + 1:=⟨m - 1,by omega⟩
  have d1:decide ((p:Int) < n2)=false:=by rw [←hM];simp;omega
  simp only [la60o2,d1,Bool.false_eq_true,if_false,many,Int.add_zero]
  exact hq _ _ _ _ _ h0 (by omega)
 | succ k ih =>
  intro p m c u v w e hm h0 h1
  obtain ⟨m,rfl⟩:∃m',m=m' + 1:=⟨m - 1,by omega⟩
  have d1:decide ((p:Int) < n2)=true:=by rw [←hM];simp;omega
  have d2:=nat_in (i:=p) (n:=M.length) (by omega)
  obtain ⟨x,ex⟩:=Int_row (getD_row h (i:=p) (by omega))
  have d3:(decide (1≤(M.getD p []).length)&&isF z3 0 (M.getD p []))=true:=by rw [ex];rfl
  have hw:=w64_succ p (by omega)
  simp only [la60o2,d1,d2,nat_pos,Int.toNat_natCast,d3,Bool.and_self,chk_true,if_true,hw,many]
  by_cases g:xI M p ≥ i
  ·have g1:decide (asI (nthD (M.getD p []) 0) ≥ i)=true:=decide_eq_true g
   have hc:w64 (c+1)=c+1:=w64_in _ (by omega)
   simp only [g1,if_true,hc,if_pos g]
   rw [ih (p+1) m (c+1) _ _ _ (by omega) (by omega) (by omega) (by omega)]
   congr 1;omega
  ·have g1:decide (asI (nthD (M.getD p []) 0) ≥ i)=false:=decide_eq_false g
   simp only [g1,Bool.false_eq_true,if_false,if_neg g,Int.zero_add]
   exact ih (p+1) m c _ _ _ (by omega) (by omega) h0 (by omega)
theorem cnt_loopI {b149:Bool} {n155 n156 n157 n158 n159 n160 n161 n162 n163:Int} {l164 l165 l166:List (List D)} (i n2:Int) (M:List (List D)) (h:∀r∈M,typL shInt r) (hM:(M.length:Int)=n2) (h5:M.length≤5) (q:Int→SV→Int→Bool→SV→SV→Rs) (R:Int→Rs) (hq:∀a b c d e f,0≤a→a≤10→q a b c d e f=R a):∀(k p m:Nat) (c:Int) (z u v w:SV),p+k=M.length→k < m→0≤c→c≤(p:Int) →
  la58o2 t43 t66 t70 i b149 n2 n155 n156 n157 n158 n159 n160 n161 n162 n163 l164 l165 l166 M q m c z (p:Int) u v w=R (c+many M i k p):=by
 intro k
 induction k with
 | zero =>
  intro p m c z u v w e hm h0 h1
  obtain ⟨m,rfl⟩:∃m',m=m' + 1:=⟨m - 1,by omega⟩
  have d1:decide ((p:Int) < n2)=false:=by rw [←hM];simp;omega
  simp only [la58o2,d1,Bool.false_eq_true,if_false,many,Int.add_zero]
  exact hq _ _ _ _ _ _ h0 (by omega)
 | succ k ih =>
  intro p m c z u v w e hm h0 h1
  obtain ⟨m,rfl⟩:∃m',m=m' + 1:=⟨m - 1,by omega⟩
  have d1:decide ((p:Int) < n2)=true:=by rw [←hM];simp;omega
  have d2:=nat_in (i:=p) (n:=M.length) (by omega)
  obtain ⟨x,ex⟩:=Int_row (getD_row h (i:=p) (by omega))
  have d3:(decide (1≤(M.getD p []).length)&&isF z3 0 (M.getD p []))=true:=by rw [ex];rfl
  have hw:=w64_succ p (by omega)
  simp only [la58o2,d1,d2,nat_pos,Int.toNat_natCast,d3,Bool.and_self,chk_true,if_true,hw,many]
  by_cases g:xI M p ≥ i
  ·have g1:decide (asI (nthD (M.getD p []) 0) ≥ i)=true:=decide_eq_true g
   have hc:w64 (c+1)=c+1:=w64_in _ (by omega)
   simp only [g1,if_true,hc,if_pos g]
   rw [ih (p+1) m (c+1) _ _ _ _ (by omega) (by omega) (by omega) (by omega)]
   congr 1;omega
  ·have g1:decide (asI (nthD (M.getD p []) 0) ≥ i)=false:=decide_eq_false g
   simp only [g1,Bool.false_eq_true,if_false,if_neg g,Int.zero_add]
   exact ih (p+1) m c _ _ _ _ (by omega) (by omega) h0 (by omega)
def com (n2 n3 n7 n8:Int) (l9:List (List D)) (n10:Int) (M:List (List D)):Nat→Int
 | 0=>n10
 | k+1=>if trm n7 n8 l9 (n10+((k+1:Nat):Int))=n3∧2 * many M (n10+((k+1:Nat):Int)) M.length 0 > n2 then n10+((k+1:Nat):Int) else com n2 n3 n7 n8 l9 n10 M k
theorem com_in (n2 n3 n7 n8:Int) (l9:List (List D)) (n10:Int) (M:List (List D)):∀k:Nat,n10≤com n2 n3 n7 n8 l9 n10 M k∧com n2 n3 n7 n8 l9 n10 M k≤n10+(k:Int)
 | 0=>by simp [com]
 | k+1=>by
  have:=com_in n2 n3 n7 n8 l9 n10 M k
  simp only [com]
  split<;>omega
theorem count_loopS {n165 n166 n167 n168 n169 n170 n171 n172 n173 n181 n184 n185 n186 n190 n191 n192 n193 n194 n195 n196 n197 n198:Int} {l200 l201:List (List D)} (n2 n3 n7 n8:Int) (l9:List (List D)) (n10:Int) (M:List (List D)) (q1:Int→Int→Int→Bool→Bool→SV→Bool→Rs) (q2:Int→SV→SV→Bool→SV→SV→SV→Rs) (R:Int→Rs) (h1:∀a b c d e f g,q1 a b c d e f g=R a) (h2:∀a b c d e f g,q2 a b c d e f g=R n10) (h9:∀r∈l9,typL shEntry r) (hl:l9.length≤100) (h7:0≤n7∧n7≤200000) (h10:n7≤n10)
  (h:∀r∈M,typL shInt r) (hM:(M.length:Int)=n2) (h5:M.length≤5):∀(k m:Nat) (v1 v2 v3 v4 v5 v6:SV),k < m→n10+(k:Int)≤n7+(l9.length:Int) →
  la60o0 t23 t37 n165 n166 n167 n168 n169 n170 n171 n172 n173 n181 n2 n3 n184 n185 n186 n7 n8 n10 n190 n191 n192 n193 n194 n195 n196 n197 n198 l9 l200 l201 M q1 q2 m (n10+(k:Int)) v1 v2 v3 v4 v5 v6=R (com n2 n3 n7 n8 l9 n10 M k):=by
 intro k
 induction k with
 | zero =>
  intro m v1 v2 v3 v4 v5 v6 hm hk
  obtain ⟨m,rfl⟩:∃m',m=m' + 1:=⟨m - 1,by omega⟩
  have d1:decide (n10+((0:Nat):Int) > n10)=false:=by simp
  simp only [la60o0,d1,Bool.false_eq_true,if_false,h2,com]
 | succ k ih =>
  intro m v1 v2 v3 v4 v5 v6 hm hk
  obtain ⟨m,rfl⟩:∃m',m=m' + 1:=⟨m - 1,by omega⟩
  have d1:decide (n10+((k+1:Nat):Int) > n10)=true:=by simp;omega
  have ew:∀x,okR zr37 zo37 (some ([.one (.i .i64 x)],[]))=true:=fun _=>rfl
  have ei:∀x,asI (resC (some ([.one (.i .i64 x)],[])) 0 0)=x:=fun _=>rfl
  have et:=fun a1 a4 a5 a6 a11 a12=>term_spec a1 n2 n3 a4 a5 a6 n7 n8 l9 n10 a11 a12 M h9 hl h7 (n10+((k+1:Nat):Int)) ⟨by omega,by omega⟩
  simp only [la60o0,d1,if_true,com]
  refine Eq.trans (cnt_loopS (n10+((k+1:Nat):Int)) n2 M h hM h5 _ (fun c=>if trm n7 n8 l9 (n10+((k+1:Nat):Int))=n3∧2 * c > n2 then R (n10+((k+1:Nat):Int)) else R (com n2 n3 n7 n8 l9 n10 M k)) (fun a b c d e ha hb=>?_) M.length 0 KK 0 _ _ _ (by omega) (by rw [KK_eq];omega) (Int.le_refl _) (Int.le_refl _)) ?_
  ·simp only [et,ew,ei,chk_true]
   rw [w64_in (2 * a) (by omega),w64_in (n10+((k+1:Nat):Int) - 1) (by omega)]
   by_cases g:trm n7 n8 l9 (n10+((k+1:Nat):Int))=n3∧2 * a > n2
   ·have g1:(trm n7 n8 l9 (n10+((k+1:Nat):Int))==n3&&decide (2 * a > n2))=true:=by simpa using g
    simp only [g1,if_true,if_pos g,h1]
   ·have g1:(trm n7 n8 l9 (n10+((k+1:Nat):Int))==n3&&decide (2 * a > n2))=false:=by simpa using g
    simp only [g1,Bool.false_eq_true,if_false,if_neg g]
    rw [show n10+((k+1:Nat):Int) - 1=n10+(k:Int) by omega]
    exact ih m _ _ _ _ _ _ (by omega) (by omega)
  ·rw [Int.zero_add]
   split<;>rfl
theorem count_spec (n1 n2 n3 n4 n5 n6 n7 n8:Int) (l9:List (List D)) (n10:Int) (l11 l12 l13:List (List D)) (h9:∀r∈l9,typL shEntry r) (hl:l9.length≤100) (h7:0≤n7∧n7≤200000) (h10:n7≤n10) (hk:n10≤n7+(l9.length:Int)) (h:∀r∈l13,typL shInt r) (hM:(l13.length:Int)=n2) (h5:l13.length≤5) :
  t60 n1 n2 n3 n4 n5 n6 n7 n8 l9 n10 l11 l12 l13=some ([.agg [.i .i64 n1,.i .i64 n2,.i .i64 n3,.i .i64 n4,.i .i64 n5,.i .i64 n6,.i .i64 n7,.i .i64 n8,.l l9,.i .i64 (com n2 n3 n7 n8 l9 n10 l13 (n7+(l9.length:Int) - n10).toNat),.l l11,.l l12,.l l13]],[]):=by
 have ew1:∀x,okR zr23 zo23 (some ([.one (.i .i64 x)],[]))=true:=fun _=>rfl
 have ei:∀x,asI (resC (some ([.one (.i .i64 x)],[])) 0 0)=x:=fun _=>rfl
 unfold t60 ta60
 simp only [last_spec,ew1,ei,chk_true]
 rw [w64_in (n7+(l9.length:Int)) (by omega)]
 have e:n7+(l9.length:Int)=n10+((n7+(l9.length:Int) - n10).toNat:Int):=by omega
 generalize hK:(n7+(l9.length:Int) - n10).toNat=K at e
 rw [e]
 exact count_loopS n2 n3 n7 n8 l9 n10 l13 _ _ (fun c=>some ([.agg [.i .i64 n1,.i .i64 n2,.i .i64 n3,.i .i64 n4,.i .i64 n5,.i .i64 n6,.i .i64 n7,.i .i64 n8,.l l9,.i .i64 c,.l l11,.l l12,.l l13]],[])) (fun _ _ _ _ _ _ _=>rfl) (fun _ _ _ _ _ _ _=>rfl) h9 hl h7 h10 h hM h5 K KK _ _ _ _ _ _ (by rw [KK_eq];omega) (by omega)
theorem count_loopI {n110 n113 n114 n115:Int} {l120 l121:List (List D)} (n2 n3 n7 n8:Int) (l9:List (List D)) (n10:Int) (M:List (List D)) (q1:Int→Int→SV→Bool→Int→Int→Bool→SV→Bool→Rs) (q2:Int→SV→SV→Bool→SV→SV→SV→SV→SV→SV→Rs) (R:Int→Rs) (h1:∀a b c d e f g h i,q1 a b c d e f g h i=R a) (h2:∀a b c d e f g h i j,q2 a b c d e f g h i j=R n10) (h9:∀r∈l9,typL shEntry r) (hl:l9.length≤100) (h7:0≤n7∧n7≤200000) (h10:n7≤n10)
  (h:∀r∈M,typL shInt r) (hM:(M.length:Int)=n2) (h5:M.length≤5):∀(k m:Nat) (v1 v2 v3 v4 v5 v6 v7 v8 v9:SV),k < m→n10+(k:Int)≤n7+(l9.length:Int) →
  la58o0 t43 t66 t70 n110 n2 n3 n113 n114 n115 n7 n8 n10 l9 l120 l121 M q1 q2 m (n10+(k:Int)) v1 v2 v3 v4 v5 v6 v7 v8 v9=R (com n2 n3 n7 n8 l9 n10 M k):=by
 intro k
 induction k with
 | zero =>
  intro m v1 v2 v3 v4 v5 v6 v7 v8 v9 hm hk
  obtain ⟨m,rfl⟩:∃m',m=m' + 1:=⟨m - 1,by omega⟩
  have d1:decide (n10+((0:Nat):Int) > n10)=false:=by simp
  simp only [la58o0,d1,Bool.false_eq_true,if_false,h2,com]
 | succ k ih =>
  intro m v1 v2 v3 v4 v5 v6 v7 v8 v9 hm hk
  obtain ⟨m,rfl⟩:∃m',m=m' + 1:=⟨m - 1,by omega⟩
  have d1:decide (n10+((k+1:Nat):Int) > n10)=true:=by simp;omega
  have ew:∀x,okR zr70 zo70 (some ([.one (.i .i64 x)],[]))=true:=fun _=>rfl
  have ei:∀x,asI (resC (some ([.one (.i .i64 x)],[])) 0 0)=x:=fun _=>rfl
  have ew2:∀x,okR zr66 zo66 (some ([.one (.b x)],[]))=true:=fun _=>rfl
  have eb:∀x,asB (resC (some ([.one (.b x)],[])) 0 0)=x:=fun _=>rfl
  have et:=fun a1 a4 a5 a6 a11 a12=>term_impl a1 n2 n3 a4 a5 a6 n7 n8 l9 n10 a11 a12 M h9 hl h7 (n10+((k+1:Nat):Int)) ⟨by omega,by omega⟩
  simp only [la58o0,d1,if_true,com]
  refine Eq.trans (cnt_loopI (n10+((k+1:Nat):Int)) (M.length:Int) M h rfl h5 _ (fun c=>if trm n7 n8 l9 (n10+((k+1:Nat):Int))=n3∧2 * c > n2 then R (n10+((k+1:Nat):Int)) else R (com n2 n3 n7 n8 l9 n10 M k)) (fun a b c d e f ha hb=>?_) M.length 0 KK 0 _ _ _ _ (by omega) (by rw [KK_eq];omega) (Int.le_refl _) (Int.le_refl _)) ?_
  ·simp only [et,ew,ei,most_eq,ew2,eb,Bool.true_or,chk_true]
   rw [w64_in (2 * a) (by omega),w64_in (n10+((k+1:Nat):Int) - 1) (by omega)]
   by_cases g:trm n7 n8 l9 (n10+((k+1:Nat):Int))=n3∧2 * a > n2
   ·have g1:(trm n7 n8 l9 (n10+((k+1:Nat):Int))==n3&&decide (2 * a > n2))=true:=by simpa using g
    simp only [g1,if_true,if_pos g,h1]
   ·have g1:(trm n7 n8 l9 (n10+((k+1:Nat):Int))==n3&&decide (2 * a > n2))=false:=by simpa using g
    simp only [g1,Bool.false_eq_true,if_false,if_neg g]
    rw [show n10+((k+1:Nat):Int) - 1=n10+(k:Int) by omega]
    exact ih m _ _ _ _ _ _ _ _ _ (by omega) (by omega)
  ·rw [Int.zero_add]
   split<;>rfl
theorem count_impl (n1 n2 n3 n4 n5 n6 n7 n8:Int) (l9:List (List D)) (n10:Int) (l11 l12 l13:List (List D)) (h9:∀r∈l9,typL shEntry r) (hl:l9.length≤100) (h7:0≤n7∧n7≤200000) (h10:n7≤n10) (hk:n10≤n7+(l9.length:Int)) (h:∀r∈l13,typL shInt r) (hM:(l13.length:Int)=n2) (h5:l13.length≤5) :
  t58 n1 n2 n3 n4 n5 n6 n7 n8 l9 n10 l11 l12 l13=some ([],[[.i .i64 n1,.i .i64 n2,.i .i64 n3,.i .i64 n4,.i .i64 n5,.i .i64 n6,.i .i64 n7,.i .i64 n8,.l l9,.i .i64 (com n2 n3 n7 n8 l9 n10 l13 (n7+(l9.length:Int) - n10).toNat),.l l11,.l l12,.l l13]]):=by
 have ew1:∀x,okR zr43 zo43 (some ([.one (.i .i64 x)],[]))=true:=fun _=>rfl
 have ei:∀x,asI (resC (some ([.one (.i .i64 x)],[])) 0 0)=x:=fun _=>rfl
 unfold t58 ta58
 simp only [last_impl,ew1,ei,chk_true]
 rw [w64_in (n7+(l9.length:Int)) (by omega)]
 have e:n7+(l9.length:Int)=n10+((n7+(l9.length:Int) - n10).toNat:Int):=by omega
 generalize hK:(n7+(l9.length:Int) - n10).toNat=K at e
 rw [e]
 exact count_loopI n2 n3 n7 n8 l9 n10 l13 _ _ (fun c=>some ([],[[.i .i64 n1,.i .i64 n2,.i .i64 n3,.i .i64 n4,.i .i64 n5,.i .i64 n6,.i .i64 n7,.i .i64 n8,.l l9,.i .i64 c,.l l11,.l l12,.l l13]])) (fun _ _ _ _ _ _ _ _ _=>rfl) (fun _ _ _ _ _ _ _ _ _ _=>rfl) h9 hl h7 h10 h hM h5 K KK _ _ _ _ _ _ _ _ _ (by rw [KK_eq];omega) (by omega)
theorem stR_int {l:List (List D)} (h:∀r∈l,typL shInt r) (i:Nat) (x:Int) (hx:-9223372036854775808≤x∧x≤9223372036854775807):(stR l i 0 [.i .i64 x]).length=l.length∧(∀r∈stR l i 0 [.i .i64 x],typL shInt r)∧∀p,p < l.length→xI (stR l i 0 [.i .i64 x]) p=if p=i then x else xI l p:=by
 have one:∀r,typL shInt r→r.take 0++[D.i .i64 x]++r.drop (0 + [D.i .i64 x].length)=[.i .i64 x]:=fun r hr=>by
  obtain ⟨a,rfl⟩:=Int_row hr;rfl
 have ht:typL shInt [D.i .i64 x]:=⟨_,_,rfl,int_typ hx,rfl⟩
 unfold stR
 refine ⟨List.length_modify _ _ _,fun r hr=>?_,fun p hp=>?_⟩
 ·obtain ⟨j,hj⟩:=List.getElem?_of_mem hr
  simp only [List.getElem?_modify,Option.map_eq_map,Option.map_eq_some_iff] at hj
  obtain ⟨q,h1,h2⟩:=hj
  have hq:=h q (List.mem_of_getElem? h1)
  split at h2
  ·rw [one q hq] at h2;rw [←h2];exact ht
  ·rw [←h2];exact hq
 ·unfold xI
  rw [List.getD_eq_getElem?_getD,List.getD_eq_getElem?_getD,List.getElem?_modify]
  by_cases e:p=i
  ·subst e
   simp only [if_true,List.getElem?_eq_getElem hp,Option.map_eq_map,Option.map_some,Option.getD_some]
   rw [one _ (h _ (List.getElem_mem hp))]
   rfl
  ·rw [if_neg e]
   simp [Ne.symm e]
def putL (b:Bool) (l9:List (List D)) (n3:Int) (s:ByteArray):List (List D):=if b then l9++[[.i .i64 n3,.s s]] else l9
/-- One who leads, before he takes up an entry. -/
structure Led (n1 n2 n3 n7 n10:Int) (l9 l12 l13:List (List D)) (s:ByteArray) (id:Nat):Prop where
 eid:n1=(id:Int)
 lt:id < l12.length
 e12:(l12.length:Int)=n2
 e13:(l13.length:Int)=n2
 h5:l12.length≤5
 t12:∀r∈l12,typL shInt r
 t13:∀r∈l13,typL shInt r
 t9:∀r∈l9,typL shEntry r
 z9:∀r∈l9,szdL shEntry r
 h9:l9.length≤60
 h7:0≤n7∧n7+(l9.length:Int)≤100000
 h10:n7≤n10∧n10≤n7+(l9.length:Int)
 h3:0≤n3∧n3≤100000
 hs:s.size≤1048576
theorem putL_ok {n1 n2 n3 n7 n10:Int} {l9 l12 l13:List (List D)} {s:ByteArray} {id:Nat} (L:Led n1 n2 n3 n7 n10 l9 l12 l13 s id) (b:Bool):(∀r∈putL b l9 n3 s,typL shEntry r)∧(∀r∈putL b l9 n3 s,szdL shEntry r)∧l9.length≤(putL b l9 n3 s).length∧(putL b l9 n3 s).length≤l9.length+1:=by
 have h3:=L.h3
 have hs:=L.hs
 unfold putL
 cases b
 ·exact ⟨L.t9,L.z9,Nat.le_refl _,Nat.le_succ _⟩
 ·simp only [if_true]
  refine ⟨fun r hr=>?_,fun r hr=>?_,by simp,by simp⟩
  ·rcases List.mem_append.1 hr with hr | hr
   ·exact L.t9 r hr
   ·rw [List.mem_singleton] at hr;subst hr
    exact ⟨_,_,rfl,int_typ (by omega),_,_,rfl,⟨_,rfl,by unfold maxLen;omega⟩,rfl⟩
  ·rcases List.mem_append.1 hr with hr | hr
   ·exact L.z9 r hr
   ·rw [List.mem_singleton] at hr;subst hr
    exact ⟨trivial,hs,trivial⟩
theorem own_impl (n1 n2 n3 n4 n5 n6 n7 n8:Int) (G:List (List D)) (n10:Int) (l11 l12 l13:List (List D)) (id:Nat) (hid:n1=(id:Int)) (h2:id < l12.length) (h3:id < l13.length) (hb:0≤n7∧n7+(G.length:Int)≤200000) :
  t57 n1 n2 n3 n4 n5 n6 n7 n8 G n10 l11 l12 l13=some ([],[[.i .i64 n1,.i .i64 n2,.i .i64 n3,.i .i64 n4,.i .i64 n5,.i .i64 n6,.i .i64 n7,.i .i64 n8,.l G,.i .i64 n10,.l l11,.l (stR l12 id 0 [.i .i64 (n7+(G.length:Int)+1)]),.l (stR l13 id 0 [.i .i64 (n7+(G.length:Int))])]]):=by
 subst hid
 have ew1:∀x,okR zr43 zo43 (some ([.one (.i .i64 x)],[]))=true:=fun _=>rfl
 have ei:∀x,asI (resC (some ([.one (.i .i64 x)],[])) 0 0)=x:=fun _=>rfl
 have d2:decide (1≤1∧id < l12.length)=true:=decide_eq_true ⟨Nat.le_refl _,h2⟩
 have d3:decide (1≤1∧id < l13.length)=true:=decide_eq_true ⟨Nat.le_refl _,h3⟩
 unfold t57 ta57
 simp only [last_impl,ew1,ei,Int.toNat_natCast,nat_in h2,nat_in h3,nat_pos,d2,d3,Bool.and_self,chk_true]
 rw [w64_in (n7+(G.length:Int)) (by omega),w64_in (n7+(G.length:Int)+1) (by omega)]
theorem put_spec (n1 n2 n3 n4 n5 n6 n7 n8:Int) (l9:List (List D)) (n10:Int) (l11 l12 l13:List (List D)) (s:ByteArray) (id:Nat) (L:Led n1 n2 n3 n7 n10 l9 l12 l13 s id) (b:Bool) (hb:b=(decide ((l9.length:Int) < 60)&&decide (n7+(l9.length:Int) < 100000))) :
  t32 n1 n2 n3 n4 n5 n6 n7 n8 l9 n10 l11 l12 l13 s=some ([.agg [.i .i64 n1,.i .i64 n2,.i .i64 n3,.i .i64 n4,.i .i64 n5,.i .i64 n6,.i .i64 n7,.i .i64 n8,.l (putL b l9 n3 s),
   .i .i64 (com n2 n3 n7 n8 (putL b l9 n3 s) n10 (stR l13 id 0 [.i .i64 (n7+((putL b l9 n3 s).length:Int))]) (n7+((putL b l9 n3 s).length:Int) - n10).toNat),.l l11,.l (stR l12 id 0 [.i .i64 (n7+((putL b l9 n3 s).length:Int)+1)]),.l (stR l13 id 0 [.i .i64 (n7+((putL b l9 n3 s).length:Int))])]],[]):=by
 obtain ⟨g1,g2,g3,g4⟩:=putL_ok L b
 obtain ⟨hid,hlt,e12,e13,h5,k12,k13,k9,z9,h9,h7,h10,h3,hs⟩:=L
 subst hid
 have ew1:∀x,okR zr23 zo23 (some ([.one (.i .i64 x)],[]))=true:=fun _=>rfl
 have ei:∀x,asI (resC (some ([.one (.i .i64 x)],[])) 0 0)=x:=fun _=>rfl
 have hlt3:id < l13.length:=by omega
 have d2:decide (1≤1∧id < l12.length)=true:=decide_eq_true ⟨Nat.le_refl _,hlt⟩
 have d3:decide (1≤1∧id < l13.length)=true:=decide_eq_true ⟨Nat.le_refl _,hlt3⟩
 have hcount:∀G:List (List D),(∀r∈G,typL shEntry r)→l9.length≤G.length→G.length≤l9.length+1→t60 (id:Int) n2 n3 n4 n5 n6 n7 n8 G n10 l11 (stR l12 id 0 [.i .i64 (n7+(G.length:Int)+1)]) (stR l13 id 0 [.i .i64 (n7+(G.length:Int))]) =
   some ([.agg [.i .i64 (id:Int),.i .i64 n2,.i .i64 n3,.i .i64 n4,.i .i64 n5,.i .i64 n6,.i .i64 n7,.i .i64 n8,.l G,.i .i64 (com n2 n3 n7 n8 G n10 (stR l13 id 0 [.i .i64 (n7+(G.length:Int))]) (n7+(G.length:Int) - n10).toNat),.l l11,.l (stR l12 id 0 [.i .i64 (n7+(G.length:Int)+1)]),.l (stR l13 id 0 [.i .i64 (n7+(G.length:Int))])]],[]):=fun G q1 q2 q3=>by
  obtain ⟨s1,s2,s3⟩:=stR_int k13 id (n7+(G.length:Int)) (by omega)
  exact count_spec (id:Int) n2 n3 n4 n5 n6 n7 n8 G n10 l11 _ _ q1 (by omega) (by omega) (by omega) (by omega) s2 (by rw [s1];exact e13) (by rw [s1];omega)
 unfold t32 ta32
 simp only [last_spec,ew1,ei,Int.toNat_natCast,nat_in hlt,nat_in hlt3,nat_pos,d2,d3,Bool.and_self,Bool.true_or,chk_true]
 rw [w64_in (n7+(l9.length:Int)) (by omega),←hb]
 cases b
 ·have hc:=hcount l9 k9 (Nat.le_refl _) (Nat.le_succ _)
  simp only [Bool.false_eq_true,if_false]
  rw [w64_in (n7+(l9.length:Int)+1) (by omega),hc]
  rfl
 ·have hp:putL true l9 n3 s=l9++[[.i .i64 n3,.s s]]:=rfl
  rw [hp] at g1 g3 g4 ⊢
  have hc:=hcount _ g1 g3 g4
  have ef:flatR 2 [[D.i .i64 n3,.s s]]=true:=rfl
  have el:decide (l9.length + [[D.i .i64 n3,.s s]].length≤lim)=true:=decide_eq_true (by simp only [List.length_singleton];unfold lim;omega)
  simp only [if_true,ef,el,Bool.and_self,chk_true]
  rw [w64_in (n7+((l9++[[D.i .i64 n3,.s s]]).length:Int)) (by omega),w64_in (n7+((l9++[[D.i .i64 n3,.s s]]).length:Int)+1) (by omega),hc]
  rfl
/-- Behind it. -/
theorem led_fit {n1 n2 n3 n7 n10:Int} {l9 l12 l13:List (List D)} {s:ByteArray} {id:Nat} (L:Led n1 n2 n3 n7 n10 l9 l12 l13 s id) (b:Bool) (hnx:∀p,p < l12.length→xI l12 p≤n7+(l9.length:Int)+1) :
  Fit n7 (putL b l9 n3 s) (stR l12 id 0 [.i .i64 (n7+((putL b l9 n3 s).length:Int)+1)]):=by
 obtain ⟨g1,g2,g3,g4⟩:=putL_ok L b
 obtain ⟨hid,hlt,e12,e13,h5,k12,k13,k9,z9,h9,h7,h10,h3,hs⟩:=L
 obtain ⟨s1,s2,s3⟩:=stR_int k12 id (n7+((putL b l9 n3 s).length:Int)+1) (by omega)
 refine ⟨g1,by omega,by omega,s2,fun p hp=>?_,by omega⟩
 rw [s1] at hp
 rw [s3 p hp]
 have:=hnx p hp
 split<;>omega
theorem room_eq (n1 n2 n3 n4 n5 n6 n7 n8:Int) (l9:List (List D)) (n10:Int) (l11 l12 l13:List (List D)) (h7:0≤n7∧n7+(l9.length:Int)≤200000):t56 n1 n2 n3 n4 n5 n6 n7 n8 l9 n10 l11 l12 l13=some ([.one (.b (decide ((l9.length:Int) < 60)&&decide (n7+(l9.length:Int) < 100000)))],[]):=by
 have ew1:∀x,okR zr43 zo43 (some ([.one (.i .i64 x)],[]))=true:=fun _=>rfl
 have ei:∀x,asI (resC (some ([.one (.i .i64 x)],[])) 0 0)=x:=fun _=>rfl
 unfold t56 ta56
 simp only [last_impl,ew1,ei,Bool.true_or,chk_true]
 rw [w64_in (n7+(l9.length:Int)) (by omega)]
theorem propose_impl (n1 n2 n3 n4 n6 n7 n8:Int) (l9:List (List D)) (n10:Int) (l11 l12 l13:List (List D)) (s:ByteArray) (id:Nat) (L:Led n1 n2 n3 n7 n10 l9 l12 l13 s id) (hnx:∀p,p < l12.length→xI l12 p≤n7+(l9.length:Int)+1) (hr:(l9.length:Int) < 60∧n7+(l9.length:Int) < 100000) (hs:(s.size:Int)≤1600) :
  t30 n1 n2 n3 n4 3 n6 n7 n8 l9 n10 l11 l12 l13 s=some ([.one (.l (gat (msgD n1 n3 n7 n8 (putL true l9 n3 s) (com n2 n3 n7 n8 (putL true l9 n3 s) n10 (stR l13 id 0 [.i .i64 (n7+((putL true l9 n3 s).length:Int))]) (n7+((putL true l9 n3 s).length:Int) - n10).toNat) (stR l12 id 0 [.i .i64 (n7+((putL true l9 n3 s).length:Int)+1)])) n1 l12.length 0)),.one (.i .i64 (n7+((putL true l9 n3 s).length:Int)))],
   [[.i .i64 n1,.i .i64 n2,.i .i64 n3,.i .i64 n4,.i .i64 3,.i .i64 n6,.i .i64 n7,.i .i64 n8,.l (putL true l9 n3 s),.i .i64 (com n2 n3 n7 n8 (putL true l9 n3 s) n10 (stR l13 id 0 [.i .i64 (n7+((putL true l9 n3 s).length:Int))]) (n7+((putL true l9 n3 s).length:Int) - n10).toNat),.l l11,.l (stR l12 id 0 [.i .i64 (n7+((putL true l9 n3 s).length:Int)+1)]),.l (stR l13 id 0 [.i .i64 (n7+((putL true l9 n3 s).length:Int))])]]):=by
 have F:=led_fit L true hnx
 obtain ⟨g1,g2,g3,g4⟩:=putL_ok L true
 have hp:l9++[[.i .i64 n3,.s s]]=putL true l9 n3 s:=rfl
 obtain ⟨hid,hlt,e12,e13,h5,k12,k13,k9,z9,h9,h7,h10,h3,_⟩:=L
 have ef:flatR 2 [[D.i .i64 n3,.s s]]=true:=rfl
 have el:decide (l9.length + [[D.i .i64 n3,.s s]].length≤lim)=true:=decide_eq_true (by simp only [List.length_singleton];unfold lim;omega)
 generalize hG:putL true l9 n3 s=G at F g1 g2 g3 g4 hp
 obtain ⟨s1,s2,s3⟩:=stR_int k13 id (n7+(G.length:Int)) (by omega)
 obtain ⟨u1,u2,u3⟩:=stR_int k12 id (n7+(G.length:Int)+1) (by omega)
 have k1:=own_impl n1 n2 n3 n4 3 n6 n7 n8 G n10 l11 l12 l13 id hid hlt (by omega) (by omega)
 have k2:=count_impl n1 n2 n3 n4 3 n6 n7 n8 G n10 l11 (stR l12 id 0 [.i .i64 (n7+(G.length:Int)+1)]) (stR l13 id 0 [.i .i64 (n7+(G.length:Int))]) g1 (by omega) (by omega) (by omega) (by omega) s2 (by rw [s1];exact e13) (by rw [s1];omega)
 generalize com n2 n3 n7 n8 G n10 (stR l13 id 0 [.i .i64 (n7+(G.length:Int))]) (n7+(G.length:Int) - n10).toNat=K at k2
 have k3:=all_impl n1 n2 n3 n4 3 n6 n7 n8 G K l11 (stR l12 id 0 [.i .i64 (n7+(G.length:Int)+1)]) (stR l13 id 0 [.i .i64 (n7+(G.length:Int))]) F l12.length e12.symm u1
 have k4:t43 n1 n2 n3 n4 3 n6 n7 n8 G K l11 (stR l12 id 0 [.i .i64 (n7+(G.length:Int)+1)]) (stR l13 id 0 [.i .i64 (n7+(G.length:Int))])=some ([.one (.i .i64 (n7+(G.length:Int)))],[]):=by
  rw [last_impl,w64_in (n7+(G.length:Int)) (by omega)]
 have q0:((3:Int) != 3)=false:=rfl
 have q1:decide ((s.size:Int) > 1600)=false:=decide_eq_false (by omega)
 have q2:(decide ((l9.length:Int) < 60)&&decide (n7+(l9.length:Int) < 100000))=true:=by simp;omega
 have w0:∀x,okR zr56 zo56 (some ([.one (.b x)],[]))=true:=fun _=>rfl
 have w1:∀a b c,okR zr57 zo57 (some ([],[[.i .i64 n1,.i .i64 n2,.i .i64 n3,.i .i64 n4,.i .i64 3,.i .i64 n6,.i .i64 n7,.i .i64 n8,.l G,.i .i64 n10,.l a,.l b,.l c]]))=true:=fun _ _ _=>rfl
 have w2:∀a b c,okR zr58 zo58 (some ([],[[.i .i64 n1,.i .i64 n2,.i .i64 n3,.i .i64 n4,.i .i64 3,.i .i64 n6,.i .i64 n7,.i .i64 n8,.l G,.i .i64 K,.l a,.l b,.l c]]))=true:=fun _ _ _=>rfl
 have w3:∀x,okR zr59 zo59 (some ([.one (.l x)],[]))=true:=fun _=>rfl
 have w4:∀x,okR zr43 zo43 (some ([.one (.i .i64 x)],[]))=true:=fun _=>rfl
 have eb:∀x,asB (resC (some ([.one (.b x)],[])) 0 0)=x:=fun _=>rfl
 unfold t30 ta30
 simp only [room_eq n1 n2 n3 n4 3 n6 n7 n8 l9 n10 l11 l12 l13 (by omega),w0,eb,q0,q1,q2,hp,ef,el,Bool.or_self,Bool.and_self,Bool.not_true,Bool.true_or,chk_true,Bool.false_eq_true,if_false]
 rw [k1]
 simp only [w1,chk_true,outC,nthO,nthD,asI,asL]
 rw [k2]
 simp only [w2,chk_true,outC,nthO,nthD,asI,asL]
 rw [k3,k4]
 simp only [w3,w4,chk_true]
 rfl
end Go.Den.L4

/- One who asks for votes. -/
namespace Go.Den.L4
open Go
/-- What is sent by one who asks. -/
def askD (n1 n3 last term:Int) (p:Nat):List D:=[.i .i64 1,.i .i64 n1,.i .i64 (p:Int),.i .i64 n3,.i .i64 last,.i .i64 term,.i .i64 0,.b false,.l [],.s ⟨#[]⟩]
theorem ask_loopS {n56 n57 n58 n59 n60 n61 n62 n63:Int} {l64:List (List D)} {n65:Int} {l66 l67 l68:List (List D)} {b70 b71 b72:Bool} {n78 n79 n80 n83 n84 n85 n86 n87 n88 n89 n90 n91 n92:Int} {l94 l96 l97 l98:List (List D)} (n1 n2 n3 n7 n8:Int) (l9:List (List D)) (q:Int→Bool→SV→List (List D)→Rs) (R:List (List D)→Rs) (hq:∀a b c d,q a b c d=R d) (h9:∀r∈l9,typL shEntry r) (hl:l9.length≤100) (h7:0≤n7∧n7≤200000) (N:Nat) (hN:n2=(N:Int)) (h5:N≤5):∀(k i m:Nat) (v w:SV) (acc:List (List D)),i+k=N→k < m→acc.length≤i →
  la76o3 t7 t23 t31 t37 t83 n56 n57 n58 n59 n60 n61 n62 n63 l64 n65 l66 l67 l68 b70 b71 b72 n1 n2 n3 n78 n79 n80 n7 n8 n83 n84 n85 n86 n87 n88 n89 n90 n91 n92 l94 l9 l96 l97 l98 q m (i:Int) v w acc=R (acc++gat (askD n1 n3 (n7+(l9.length:Int)) (trm n7 n8 l9 (n7+(l9.length:Int)))) n1 k i):=by
 intro k
 induction k with
 | zero =>
  intro i m v w acc e hm ha
  obtain ⟨m,rfl⟩:∃m',m=m' + 1:=⟨m - 1,by omega⟩
  have c:decide ((i:Int) < n2)=false:=by rw [hN];simp;omega
  simp only [la76o3,c,Bool.false_eq_true,if_false,hq,gat,List.append_nil]
 | succ k ih =>
  intro i m v w acc e hm ha
  obtain ⟨m,rfl⟩:∃m',m=m' + 1:=⟨m - 1,by omega⟩
  have c:decide ((i:Int) < n2)=true:=by rw [hN];simp;omega
  have hw:=w64_succ i (by omega)
  have ew1:∀x,okR zr23 zo23 (some ([.one (.i .i64 x)],[]))=true:=fun _=>rfl
  have ew2:∀x,okR zr37 zo37 (some ([.one (.i .i64 x)],[]))=true:=fun _=>rfl
  have ei:∀x,asI (resC (some ([.one (.i .i64 x)],[])) 0 0)=x:=fun _=>rfl
  have hwl:w64 (n7+(l9.length:Int))=n7+(l9.length:Int):=w64_in _ (by omega)
  have et:=fun a1 a2 a3 a4 a5 a6 a10 a11 a12 a13=>term_spec a1 a2 a3 a4 a5 a6 n7 n8 l9 a10 a11 a12 a13 h9 hl h7 (n7+(l9.length:Int)) ⟨by omega,Int.le_refl _⟩
  by_cases g:(i:Int)=n1
  ·have q1:((i:Int) != n1)=false:=by simpa using g
   simp only [la76o3,c,q1,if_true,Bool.false_eq_true,if_false,hw,gat,if_pos g]
   exact ih (i+1) m _ _ acc (by omega) (by omega) (by omega)
  ·have q1:((i:Int) != n1)=true:=by simpa using g
   have el:decide (acc.length + [askD n1 n3 (n7+(l9.length:Int)) (trm n7 n8 l9 (n7+(l9.length:Int))) i].length≤lim)=true:=decide_eq_true (by simp only [List.length_singleton];unfold lim;omega)
   have ea:([[.i .i64 (1:Int),.i .i64 n1,.i .i64 (i:Int),.i .i64 n3,.i .i64 (n7+(l9.length:Int)),.i .i64 (trm n7 n8 l9 (n7+(l9.length:Int))),.i .i64 (0:Int),.b false,.l ([]:List (List D)),.s (⟨#[]⟩:ByteArray)]]:List (List D))=[askD n1 n3 (n7+(l9.length:Int)) (trm n7 n8 l9 (n7+(l9.length:Int))) i]:=rfl
   simp only [la76o3,c,q1,if_true,last_spec,hwl,ew1,ei,et,ew2,ea,el,Bool.true_and,chk_true,hw,gat,if_neg g]
   have:=ih (i+1) m (.d (.b true)) (.d (.b true)) (acc++[askD n1 n3 (n7+(l9.length:Int)) (trm n7 n8 l9 (n7+(l9.length:Int))) i]) (by omega) (by omega) (by simp;omega)
   rw [List.append_assoc] at this
   exact this
end Go.Den.L4

/- Draws: the cursor. -/
namespace Go.Den.L4
open Go
/-- A cursor over the bytes l, at i. -/
def Cu (l:List (List D)) (i:Int):Prop:=(l.length≤1048576∧∀r∈l,typL [.i .u8] r)∧0≤i∧i≤l.length
def PQ (zr:List DV) (zo:List (List D)) (P:Rs→Prop) (o:Rs):Prop:=okR zr zo o=true∧P o
theorem pq_chk {zr:List DV} {zo:List (List D)} {P:Rs→Prop} {b:Bool} {x:Rs} (h:b=true) (hx:PQ zr zo P x):PQ zr zo P (chk b x):=by rw [chk_ok h];exact hx
theorem pq_ite {zr:List DV} {zo:List (List D)} {P:Rs→Prop} {c:Bool} {x y:Rs} (h1:c=true→PQ zr zo P x) (h2:c=false→PQ zr zo P y):PQ zr zo P (if c=true then x else y):=by
 cases c
 ·exact h2 rfl
 ·exact h1 rfl
theorem pq_mono {zr:List DV} {zo:List (List D)} {P Q:Rs→Prop} {o:Rs} (h:PQ zr zo P o) (hp:P o→Q o):PQ zr zo Q o:=⟨h.1,hp h.2⟩
theorem wrap_in (n:Int) (h:0≤n∧n≤255):IntKind.wrap .i64 n=n:=Go.IntWalk.i64_in n (by omega)
theorem and255 (x:Int):0≤bitAnd .i64 x 255∧bitAnd .i64 x 255≤255:=by
 have h:(BitVec.ofInt (IntKind.bits .i64) x &&& BitVec.ofInt (IntKind.bits .i64) 255).toNat≤255:=by
  rw [BitVec.toNat_and]
  exact Nat.le_trans Nat.and_le_right (by decide)
 unfold bitAnd
 generalize (BitVec.ofInt (IntKind.bits .i64) x &&& BitVec.ofInt (IntKind.bits .i64) 255).toNat=k at h
 rw [wrap_in _ (by omega)]
 omega
theorem code_row {l:List (List D)} {i:Int} (C:Cu l i) (h:i < l.length):isRow z5 (l.getD i.toNat [])=true:=by
 have:=getD_row C.1.2 (i:=i.toNat) (by have:=C.2.1;omega)
 obtain ⟨d,r,e,⟨n,rfl,_⟩,rfl⟩:=this
 rw [e];rfl
theorem Cu.step {l:List (List D)} {i:Int} (C:Cu l i) (h:i < l.length):Cu l (w64 (i+1)):=by
 have:=C.1.1;have:=C.2.1
 rw [w64_in _ (by omega)]
 exact ⟨C.1,by omega,by omega⟩
theorem d55 {l:List (List D)} {i:Int} (C:Cu l i) (h:Int):PQ zr55 zo55 (fun o=>Cu l (asI (outC o 0 1))∧(0≤asI (resC o 0 0)∧asI (resC o 0 0)≤255)∧True) (t55 l i h):=by
 unfold t55
 extract_lets +onlyGivenNames -underBinder k1
 refine pq_ite (fun g=>?_) (fun g=>?_)
 ·have hi:i < l.length:=by simpa using g
  refine pq_chk (by rw [code_row C hi];have:=C.2.1;simp;omega) ?_
  exact ⟨rfl,C.step hi,and255 _,trivial⟩
 ·exact ⟨rfl,C,and255 _,trivial⟩
theorem emod_le0 {x n:Int} (h:0≤x) (hn:0 < n):x % n≤x:=by
 have h1:=Int.emod_add_mul_ediv x n
 have h2:=Int.mul_nonneg (Int.le_of_lt hn) (Int.ediv_nonneg h (Int.le_of_lt hn))
 omega
theorem d29 {l:List (List D)} {i:Int} (C:Cu l i) (h n:Int):PQ zr29 zo29 (fun o=>Cu l (asI (outC o 0 1))∧(0≤asI (resC o 0 0)∧asI (resC o 0 0)≤4294967295∧(0 < n→asI (resC o 0 0) < n))∧True) (t29 l i h n):=by
 unfold t29 ta29
 refine pq_ite (fun g=>?_) (fun g=>?_)
 ·have:n≤0:=by simpa using g
  exact ⟨rfl,C,⟨Int.le_refl 0,by show (0:Int)≤_;decide,fun h=>by omega⟩,trivial⟩
 have hn:0 < n:=by simpa using g
 have hz:(n != 0)=true:=by simp;omega
 refine pq_ite (fun g2=>?_) (fun g2=>?_)
 ·extract_lets +onlyGivenNames -underBinder y1
  obtain ⟨a1,c1,b1,-⟩:PQ zr55 zo55 _ y1:=d55 C _
  clear_value y1
  refine pq_chk a1 (pq_chk hz ⟨rfl,c1,?_,trivial⟩)
  have h1:=Int.tmod_nonneg n b1.1
  have h2:=Int.tmod_lt_of_pos (asI (resC y1 0 0)) hn
  have h3:n≤256:=by simpa using g2
  show 0≤(asI (resC y1 0 0)).tmod n∧(asI (resC y1 0 0)).tmod n≤4294967295∧(0 < n→(asI (resC y1 0 0)).tmod n < n)
  omega
 ·extract_lets +onlyGivenNames -underBinder y2
  obtain ⟨a2,c2,b2,-⟩:PQ zr55 zo55 _ y2:=d55 C _
  clear_value y2
  refine pq_chk a2 ?_
  extract_lets +onlyGivenNames -underBinder y3
  obtain ⟨a3,c3,b3,-⟩:PQ zr55 zo55 _ y3:=d55 c2 _
  clear_value y3
  refine pq_chk a3 ?_
  extract_lets +onlyGivenNames -underBinder y4
  obtain ⟨a4,c4,b4,-⟩:PQ zr55 zo55 _ y4:=d55 c3 _
  clear_value y4
  refine pq_chk a4 ?_
  extract_lets +onlyGivenNames -underBinder y5
  obtain ⟨a5,c5,b5,-⟩:PQ zr55 zo55 _ y5:=d55 c4 _
  clear_value y5
  refine pq_chk a5 (pq_chk hz ⟨rfl,c5,?_,trivial⟩)
  show 0≤Int.tmod _ n∧Int.tmod _ n≤4294967295∧(0 < n→Int.tmod _ n < n)
  rw [w64_in (asI (resC y2 0 0) * 16777216) (by omega),w64_in (asI (resC y3 0 0) * 65536) (by omega),w64_in (asI (resC y2 0 0) * 16777216+asI (resC y3 0 0) * 65536) (by omega),w64_in (asI (resC y4 0 0) * 256) (by omega),w64_in (asI (resC y2 0 0) * 16777216+asI (resC y3 0 0) * 65536+asI (resC y4 0 0) * 256) (by omega),w64_in (asI (resC y2 0 0) * 16777216+asI (resC y3 0 0) * 65536+asI (resC y4 0 0) * 256+asI (resC y5 0 0)) (by omega)]
  have hx:0≤asI (resC y2 0 0) * 16777216+asI (resC y3 0 0) * 65536+asI (resC y4 0 0) * 256+asI (resC y5 0 0)∧asI (resC y2 0 0) * 16777216+asI (resC y3 0 0) * 65536+asI (resC y4 0 0) * 256+asI (resC y5 0 0)≤4294967295:=by omega
  have h1:=Int.tmod_nonneg n hx.1
  have h2:=Int.tmod_lt_of_pos (asI (resC y2 0 0) * 16777216+asI (resC y3 0 0) * 65536+asI (resC y4 0 0) * 256+asI (resC y5 0 0)) hn
  have h3:(asI (resC y2 0 0) * 16777216+asI (resC y3 0 0) * 65536+asI (resC y4 0 0) * 256+asI (resC y5 0 0)).tmod n≤asI (resC y2 0 0) * 16777216+asI (resC y3 0 0) * 65536+asI (resC y4 0 0) * 256+asI (resC y5 0 0):=by
   rw [Int.tmod_eq_emod_of_nonneg hx.1];exact emod_le0 hx.1 hn
  omega
theorem d17 {l:List (List D)} {i:Int} (C:Cu l i) (h n:Int):PQ zr17 zo17 (fun o=>Cu l (asI (outC o 0 1))∧True) (t17 l i h n):=by
 unfold t17 ta17
 extract_lets +onlyGivenNames -underBinder y1
 obtain ⟨a1,c1,-⟩:PQ zr29 zo29 _ y1:=d29 C _ _
 clear_value y1
 exact pq_chk a1 ⟨rfl,c1,trivial⟩
/-- A list to pick from. -/
def okL (z:List D) (x:List (List D)):Bool:=!x.isEmpty&&x.all (isRow z)
theorem okL_at {z:List D} {x:List (List D)} (h:okL z x=true) {y:Int} (h0:0≤y) (h1:0 < (x.length:Int)→y < x.length):(decide (0≤y)&&decide (y < x.length)&&isRow z (x.getD y.toNat []))=true:=by
 simp only [okL,Bool.and_eq_true,Bool.not_eq_true',List.all_eq_true] at h
 have hl:0 < x.length:=by cases x with | nil=>simp at h | cons _ _=>simp
 have h2:=h1 (by omega)
 simp only [Bool.and_eq_true,decide_eq_true_eq]
 exact ⟨⟨h0,h2⟩,h.2 _ (mem_getD (by omega))⟩
theorem d35 {l:List (List D)} {i:Int} (C:Cu l i) (h:Int) (x:List (List D)) (hx:okL z3 x=true):PQ zr35 zo35 (fun o=>Cu l (asI (outC o 0 1))∧(asI (resC o 0 0))∈x.map (fun r=>asI (nthD r 0))∧True) (t35 l i h x):=by
 unfold t35 ta35
 extract_lets +onlyGivenNames -underBinder y1
 obtain ⟨a1,c1,b1,-⟩:PQ zr29 zo29 _ y1:=d29 C _ _
 clear_value y1
 refine pq_chk a1 ?_
 extract_lets +onlyGivenNames -underBinder y2 y3
 have hc:(decide (0≤y2)&&decide (y2 < x.length)&&isRow z3 (x.getD y2.toNat []))=true:=okL_at hx b1.1 b1.2.2
 refine pq_chk hc ⟨rfl,c1,?_,trivial⟩
 simp only [Bool.and_eq_true,decide_eq_true_eq] at hc
 exact List.mem_map.2 ⟨_,mem_getD (by omega),rfl⟩
theorem new_loop (l:List (List D)) (q:Int→Int→Bool→Rs) (hl:l.length≤1048576) (ht:∀r∈l,typL [.i .u8] r) (Q:Rs→Prop) (hq:∀a b c,Q (q a b c)) :
  ∀(k i m:Nat) (n6:Int) (v:SV),i+k=l.length→k < m→Q (l14o0 l q m n6 (i:Int) v):=by
 intro k
 induction k with
 | zero =>
  intro i m n6 v e hm
  obtain ⟨m,rfl⟩:∃m',m=m' + 1:=⟨m - 1,by omega⟩
  unfold l14o0
  have:decide ((i:Int) < (l.length:Int))=false:=by simp;omega
  simp only [this,Bool.false_and,Bool.false_eq_true,if_false]
  exact hq _ _ _
 | succ k ih =>
  intro i m n6 v e hm
  obtain ⟨m,rfl⟩:∃m',m=m' + 1:=⟨m - 1,by omega⟩
  unfold l14o0
  have h1:decide ((i:Int) < (l.length:Int))=true:=by simp;omega
  by_cases h2:(i:Int) < 4000
  ·have C:Cu l (i:Int):=⟨⟨hl,ht⟩,by omega,by omega⟩
   have h3:=code_row C (by omega)
   have h4:(decide ((0:Int)≤(i:Int))&&true&&isRow z5 (l.getD (i:Int).toNat []))=true:=by rw [h3];simp
   simp only [h1,h2,decide_true,Bool.and_self,if_true]
   rw [chk_ok h4,w64_succ _ (by omega)]
   exact ih (i+1) m _ _ (by omega) (by omega)
  ·simp only [h1,h2,decide_false,Bool.and_false,Bool.false_eq_true,if_false]
   exact hq _ _ _
theorem d14 (l:List (List D)) (hl:l.length≤1048576) (ht:∀r∈l,typL [.i .u8] r):PQ zr14 zo14 (fun o=>asL (resC o 0 0)=l∧Cu l (asI (resC o 0 1))∧True) (t14 l):=by
 unfold t14
 refine new_loop l _ hl ht _ (fun a b c=>?_) l.length 0 KK _ _ (by omega) (by rw [KK_eq];omega)
 exact ⟨rfl,rfl,⟨⟨hl,ht⟩,Int.le_refl 0,by show (0:Int)≤_;omega⟩,trivial⟩
theorem n14 (l:List (List D)) (hl:l.length≤1048576) (ht:∀r∈l,typL [.i .u8] r):PQ zr14 zo14 (fun o=>Cu (asL (resC o 0 0)) (asI (resC o 0 1))∧True) (t14 l) :=
 pq_mono (d14 l hl ht) fun ⟨h1,h2,_⟩=>⟨by rw [h1];exact h2,trivial⟩
end Go.Den.L4

/- Draws: texts, names, paths. -/
namespace Go.Den.L4
open Go
theorem bytesD_le:∀(l:List (List D)),(bytesD l).length≤l.length
 | []=>Nat.le_refl 0
 | r :: l=>by
  have:=bytesD_le l
  unfold bytesD
  split<;>simp_all<;>omega
theorem isBytes_app {a b:List (List D)} (ha:isBytes a=true) (hb:isBytes b=true):isBytes (a++b)=true:=by
 induction a with
 | nil=>exact hb
 | cons r a ih =>
  match r,ha with
  | [.i .u8 n],ha=>exact ih ha
theorem text_loop {n15:Int} {s16:ByteArray} (n17:Int) (l:List (List D)) (q1:Int→SV→Bool→SV→SV→Int→Int→List (List D)→Rs) (Q:Rs→Prop) (B:Nat) (hB:B≤1048576)
  (hq:∀a b c d e i h (x:List (List D)),Cu l i→x.length≤B→isBytes x=true→Q (q1 a b c d e i h x)) :
  ∀(k m:Nat) (v19 v20 v21 v22:SV) (i h:Int) (x:List (List D)),Cu l i→x.length+k≤B→isBytes x=true→k < m→Q (la28o0 t29 t55 n15 s16 n17 l q1 m (k:Int) v19 v20 v21 v22 i h x):=by
 intro k
 induction k with
 | zero =>
  intro m v19 v20 v21 v22 i h x C hx hb hm
  obtain ⟨m,rfl⟩:∃m',m=m' + 1:=⟨m - 1,by omega⟩
  unfold la28o0
  exact hq _ _ _ _ _ _ _ _ C (by omega) hb
 | succ k ih =>
  intro m v19 v20 v21 v22 i h x C hx hb hm
  obtain ⟨m,rfl⟩:∃m',m=m' + 1:=⟨m - 1,by omega⟩
  unfold la28o0
  have h1:decide (((k+1:Nat):Int) > 0)=true:=decide_eq_true (by omega)
  have h2:w64 (((k+1:Nat):Int) - 1)=(k:Int):=by rw [w64_in _ (by omega)];omega
  obtain ⟨a,c,-⟩:=d55 C h
  have step:∀(n28:Int) (v19 v20 v21 v22:SV),Q (chk ((flatR 1 [[D.i .u8 (IntKind.wrap .u8 n28)]])&&decide (x.length + [[D.i .u8 (IntKind.wrap .u8 n28)]].length≤lim)) (la28o0 t29 t55 n15 s16 n17 l q1 m (k:Int) v19 v20 v21 v22 (asI (outC (t55 l i h) 0 1)) (asI (outC (t55 l i h) 0 2)) (x++[[D.i .u8 (IntKind.wrap .u8 n28)]]))):=by
   intro n28 v19 v20 v21 v22
   rw [chk_ok (by rw [Bool.and_eq_true];exact ⟨rfl,decide_eq_true (by simp only [List.length_cons,List.length_nil];unfold lim;omega)⟩)]
   exact ih m _ _ _ _ _ _ _ c (by simp;omega) (isBytes_app hb rfl) (by omega)
  simp only [h1,if_true,h2,chk_ok a]
  split<;>split<;>exact step _ _ _ _ _
theorem d28 {l:List (List D)} {i:Int} (C:Cu l i) (h n:Int) (hn:0≤n∧n≤1000):PQ zr28 zo28 (fun o=>Cu l (asI (outC o 0 1))∧(asS (resC o 0 0)).size≤1000∧True) (t28 l i h n):=by
 unfold t28 ta28
 extract_lets +onlyGivenNames -underBinder y1
 obtain ⟨a1,c1,b1,-⟩:PQ zr29 zo29 _ y1:=d29 C _ _
 clear_value y1
 refine pq_chk a1 ?_
 extract_lets +onlyGivenNames -underBinder y2
 obtain ⟨a2,c2,b2,-⟩:PQ zr29 zo29 _ y2:=d29 c1 _ _
 clear_value y2
 refine pq_chk a2 ?_
 obtain ⟨k,hk,hk2⟩:∃k:Nat,asI (resC y2 0 0)=(k:Int)∧k≤1000:=by
  refine ⟨(asI (resC y2 0 0)).toNat,by omega,?_⟩
  have e:=w64_in (n+1) (by omega)
  rw [e] at b2
  omega
 rw [hk]
 refine text_loop _ l _ _ 1000 (by omega) (fun a b c d e i' h' x C' hx hb=>?_) k KK _ _ _ _ _ _ _ c2 (by simpa using hk2) rfl (by rw [KK_eq];omega)
 refine pq_chk hb ⟨rfl,C',?_,trivial⟩
 have:=bytesD_le x
 show (bytesD x).toArray.size≤1000
 simp;omega
end Go.Den.L4

/- Draws: facts of what is drawn; kept states. -/
namespace Go.Den.L4
open Go
def I64 (n:Int):Prop:=-9223372036854775808≤n∧n≤9223372036854775807
/-- Rows of a kind, not too many. -/
def EL (sh:List Sh) (N:Nat) (l:List (List D)):Prop:=l.length≤N∧∀r∈l,typL sh r
theorem i64_w64 (x:Int):I64 (w64 x):=by unfold I64 w64;rw [IntKind.wrap_i64];omega
theorem i64_b {v n:Int} (h:0≤v∧v≤4294967295∧(0 < n→v < n)):I64 v:=by unfold I64;omega
theorem wfI {n:Int} (h:I64 n):(Lit.int .i64 n).wf=true:=by
 have e:=w64_in n h
 unfold w64 at e
 simp [Lit.wf,e]
 exact h
theorem el_nil (sh:List Sh):EL sh 0 []:=⟨Nat.le_refl 0,fun r h=>by cases h⟩
theorem el_one {sh:List Sh} {r:List D} (h:typL sh r):EL sh 1 [r]:=⟨Nat.le_refl 1,fun q hq=>by rw [List.mem_singleton.1 hq];exact h⟩
theorem el_app {sh:List Sh} {a b:Nat} {x y:List (List D)} (hx:EL sh a x) (hy:EL sh b y):EL sh (a+b) (x++y):=⟨by rw [List.length_append];have:=hx.1;have:=hy.1;omega,fun r h=>by
 rcases List.mem_append.1 h with h | h
 ·exact hx.2 r h
 ·exact hy.2 r h⟩
theorem el_mono {sh:List Sh} {a b:Nat} {x:List (List D)} (h:a≤b) (hx:EL sh a x):EL sh b x:=⟨Nat.le_trans hx.1 h,hx.2⟩
theorem el_take {sh:List Sh} {a n:Nat} {x:List (List D)} (hx:EL sh a x):EL sh a (x.take n):=⟨by rw [List.length_take];have:=hx.1;omega,fun r h=>hx.2 r (List.mem_of_mem_take h)⟩
theorem el_drop {sh:List Sh} {a n:Nat} {x:List (List D)} (hx:EL sh a x):EL sh a (x.drop n):=⟨by rw [List.length_drop];have:=hx.1;omega,fun r h=>hx.2 r (List.mem_of_mem_drop h)⟩
theorem typ_getD {sh:List Sh} {a i:Nat} {x:List (List D)} (hx:EL sh a x) (h:i < x.length):typL sh (x.getD i []):=hx.2 _ (mem_getD h)
theorem ent_loop (n17 n19:Int) (l24:List (List D)) (q1:Int→Int→Bool→Bool→Bool→Int→Int→List (List D)→Rs) (q2:Int→Int→Bool→SV→SV→Int→Int→List (List D)→Rs) (Q:Rs→Prop)
  (h1:∀a b c d e i h x,Cu l24 i→EL [.i .i64,.s] 60 x→Q (q1 a b c d e i h x)) (h2:∀a b c d e i h x,Cu l24 i→EL [.i .i64,.s] 60 x→Q (q2 a b c d e i h x)) :
  ∀(k m:Nat) (n18:Int) (v1 v2 v3:SV) (i h:Int) (x:List (List D)),I64 n18→Cu l24 i→EL [.i .i64,.s] (60 - k) x→k≤60→k < m→Q (la38o0 t17 t28 t29 n17 n19 l24 q1 q2 m n18 (k:Int) v1 v2 v3 i h x):=by
 intro k
 induction k with
 | zero =>
  intro m n18 v1 v2 v3 i h x hi C hx hk hm
  obtain ⟨m,rfl⟩:∃m',m=m' + 1:=⟨m - 1,by omega⟩
  unfold la38o0
  exact h2 _ _ _ _ _ _ _ _ C (el_mono (by omega) hx)
 | succ k ih =>
  intro m n18 v1 v2 v3 i h x hi C hx hk hm
  obtain ⟨m,rfl⟩:∃m',m=m' + 1:=⟨m - 1,by omega⟩
  unfold la38o0
  have g1:decide (((k+1:Nat):Int) > 0)=true:=decide_eq_true (by omega)
  have g2:w64 (((k+1:Nat):Int) - 1)=(k:Int):=by rw [w64_in _ (by omega)];omega
  -- a round: one more
  have step:∀(n:Int) (i h:Int) (b1 b2:Bool),I64 n→Cu l24 i→Q (if b1=true then q1 n ((k+1:Nat):Int) true b2 b1 i h x else
    (chk (okR zr28 zo28 (t28 l24 i h 8)) (chk ((flatR 2 [[D.i .i64 n,.s (asS (resC (t28 l24 i h 8) 0 0))]])&&decide (x.length + [[D.i .i64 n,.s (asS (resC (t28 l24 i h 8) 0 0))]].length≤lim))
     (la38o0 t17 t28 t29 n17 n19 l24 q1 q2 m n (k:Int) (.d (.b true)) (.d (.b b2)) (.d (.b b1)) (asI (outC (t28 l24 i h 8) 0 1)) (asI (outC (t28 l24 i h 8) 0 2)) (x++[[D.i .i64 n,.s (asS (resC (t28 l24 i h 8) 0 0))]]))))):=by
   intro n i h b1 b2 hn C
   cases b1 with
   | true=>simp only [if_true];exact h1 _ _ _ _ _ _ _ _ C (el_mono (by omega) hx)
   | false =>
    obtain ⟨a,c,p,-⟩:=d28 C h 8 (by decide)
    have hx1:=hx.1
    have el:=el_app hx (el_one (sh:=[.i .i64,.s]) (r:=[D.i .i64 n,.s (asS (resC (t28 l24 i h 8) 0 0))]) ⟨_,_,rfl,⟨_,rfl,wfI hn⟩,_,_,rfl,⟨_,rfl,Nat.le_trans p (by decide)⟩,rfl⟩)
    simp only [Bool.false_eq_true,if_false]
    rw [chk_ok a,chk_ok (by rw [Bool.and_eq_true];exact ⟨rfl,decide_eq_true (by simp only [List.length_cons,List.length_nil];unfold lim;omega)⟩)]
    exact ih m _ _ _ _ _ _ _ hn c (el_mono (by omega) el) (by omega) (by omega)
  simp only [g1,if_true,g2]
  split
  ·obtain ⟨a4,c4,-⟩:=d17 C h 3
   rw [chk_ok a4]
   split
   ·exact step _ _ _ _ _ (i64_w64 _) c4
   ·exact step _ _ _ _ _ hi c4
  ·rename_i hg
   rw [chk_ok (by revert hg;generalize decide (n18 < 1)=u;generalize decide (n18 < n19)=v;revert u v;decide)]
   split
   ·exact step _ _ _ _ _ (i64_w64 _) C
   ·exact step _ _ _ _ _ hi C
theorem d38 {l:List (List D)} {i:Int} (C:Cu l i) (h n4 n5 n6:Int) (h4:0≤n4∧n4≤50) (h5:I64 n5):PQ zr38 zo38 (fun o=>Cu l (asI (outC o 0 1))∧EL [.i .i64,.s] 60 (asL (resC o 0 0))∧True) (t38 l i h n4 n5 n6):=by
 unfold t38 ta38
 extract_lets +onlyGivenNames -underBinder y1
 obtain ⟨a1,c1,b1,-⟩:PQ zr29 zo29 _ y1:=d29 C _ _
 clear_value y1
 refine pq_chk a1 ?_
 rw [w64_in (n4+1) (by omega)] at b1
 obtain ⟨k,hk,hk2⟩:∃k:Nat,asI (resC y1 0 0)=(k:Int)∧k≤50:=⟨(asI (resC y1 0 0)).toNat,by omega,by omega⟩
 rw [hk]
 refine ent_loop _ _ l _ _ _ (fun a b c d e i' h' x C' hx=>?_) (fun a b c d e i' h' x C' hx=>?_) k KK _ _ _ _ _ _ _ h5 c1 (el_mono (by omega) (el_nil _)) (by omega) (by rw [KK_eq];omega)
 ·exact ⟨rfl,C',hx,trivial⟩
 ·exact ⟨rfl,C',hx,trivial⟩
end Go.Den.L4

namespace Go.Den.L4
open Go
theorem lp62_3 (n32:Int) (b33:Bool) (b34:Bool) (b35:Bool) (l37:List (List D)) (n38:Int) (n39:Int) (n40:Int) (n41:Int) (n42:Int) (n43:Int) (s44:ByteArray) (n45:Int) (n46:Int) (n47:Int) (n48:Int) (s49:ByteArray) (q1:Bool→List (List D)→Rs) (Q:Rs→Prop) (I_n45:I64 n45) (hn:n32≤2000) (hq:∀a x,EL [.i .i64,.s] 6000 x→Q (q1 a x)):∀(k m:Nat) (v:SV) (x:List (List D)),2000 - x.length≤k→k < m→EL [.i .i64,.s] 6000 x→Q (la62o3 t17 t28 t29 t38 n32 b33 b34 b35 l37 n38 n39 n40 n41 n42 n43 s44 n45 n46 n47 n48 s49 q1 m v x):=by
 intro k
 induction k with
 | zero =>
  intro m v x hk hm hx
  obtain ⟨m,rfl⟩:∃m',m=m' + 1:=⟨m - 1,by omega⟩
  unfold la62o3
  have:decide ((x.length:Int) < n32)=false:=decide_eq_false (by omega)
  simp only [this,Bool.false_eq_true,if_false]
  exact hq _ _ hx
 | succ k ih =>
  intro m v x hk hm hx
  obtain ⟨m,rfl⟩:∃m',m=m' + 1:=⟨m - 1,by omega⟩
  unfold la62o3
  by_cases g:(x.length:Int) < n32
  ·simp only [decide_eq_true g,if_true]
   have hx1:=hx.1
   have el:=el_app hx (el_one (sh:=[.i .i64,.s]) (by exact ⟨_,_,rfl,⟨_,rfl,wfI I_n45⟩,⟨_,_,rfl,⟨_,rfl,Nat.le_trans (show (⟨#[]⟩:ByteArray).size≤0 from Nat.le_of_eq rfl) (by decide)⟩,rfl⟩⟩))
   rw [chk_ok (by rw [Bool.and_eq_true];exact ⟨rfl,decide_eq_true (by simp only [List.length_cons,List.length_nil];unfold lim;omega)⟩)]
   exact ih m _ _ (by simp;omega) (by omega) ⟨by simp;omega,el.2⟩
  ·simp only [decide_eq_false g,Bool.false_eq_true,if_false]
   exact hq _ _ hx

theorem d62 {l1:List (List D)} {n2:Int} (C:Cu l1 n2) (n3:Int)  : PQ zr62 zo62 (fun o=>Cu l1 (asI (outC o 0 1))∧I64 (asI (resC o 0 0))∧I64 (asI (resC o 0 1))∧I64 (asI (resC o 0 2))∧I64 (asI (resC o 0 3))∧(asS (resC o 0 4)).size≤1000∧EL [.i .i64,.s] 6000 (asL (resC o 0 5))∧True) (t62 l1 n2 n3):=by
 unfold t62 ta62
 extract_lets -merge -useContext +onlyGivenNames -underBinder y1
 obtain ⟨a_y1,c_y1,b_y1,-⟩:PQ zr29 zo29 _ y1:=d29 C _ _
 clear_value y1
 refine pq_chk a_y1 ?_
 extract_lets -merge -useContext +onlyGivenNames -underBinder y2
 obtain ⟨a_y2,c_y2,b_y2,-⟩:PQ zr29 zo29 _ y2:=d29 c_y1 _ _
 clear_value y2
 refine pq_chk a_y2 ?_
 extract_lets -merge -useContext +onlyGivenNames -underBinder y3
 extract_lets -merge -useContext +onlyGivenNames -underBinder y4
 refine pq_ite (fun g1=>?_) (fun g1=>?_)
 ·
  extract_lets -merge -useContext +onlyGivenNames -underBinder y5
  extract_lets -merge -useContext +onlyGivenNames -underBinder y6
  extract_lets -merge -useContext +onlyGivenNames -underBinder y7
  obtain ⟨a_y7,c_y7,-⟩:PQ zr17 zo17 _ y7:=d17 c_y2 _ _
  clear_value y7
  refine pq_chk a_y7 ?_
  extract_lets -merge -useContext +onlyGivenNames -underBinder k1
  have h_k1:∀(n4:Int) (n5:Int) (n6:Int) (n7:Int) (s8:ByteArray) (C_k1_n4:Cu l1 n4) (I_k1_n6:I64 n6) (I_k1_n7:I64 n7) (S_k1_s8:s8.size≤1000),PQ zr62 zo62 (fun o=>Cu l1 (asI (outC o 0 1))∧I64 (asI (resC o 0 0))∧I64 (asI (resC o 0 1))∧I64 (asI (resC o 0 2))∧I64 (asI (resC o 0 3))∧(asS (resC o 0 4)).size≤1000∧EL [.i .i64,.s] 6000 (asL (resC o 0 5))∧True) (k1 n4 n5 n6 n7 s8):=by
   intro n4 n5 n6 n7 s8 C_k1_n4 I_k1_n6 I_k1_n7 S_k1_s8
   dsimp -zeta only [k1]
   extract_lets -merge -useContext +onlyGivenNames -underBinder y8
   obtain ⟨a_y8,c_y8,p_y8,-⟩:PQ zr38 zo38 _ y8:=d38 C_k1_n4 _ _ _ _ (by decide) I_k1_n7
   clear_value y8
   refine pq_chk a_y8 ?_
   extract_lets -merge -useContext +onlyGivenNames -underBinder y9
   refine pq_ite (fun g2=>?_) (fun g2=>?_)
   ·
    extract_lets -merge -useContext +onlyGivenNames -underBinder y10
    extract_lets -merge -useContext +onlyGivenNames -underBinder y11
    extract_lets -merge -useContext +onlyGivenNames -underBinder y12
    obtain ⟨a_y12,c_y12,-⟩:PQ zr17 zo17 _ y12:=d17 c_y8 _ _
    clear_value y12
    refine pq_chk a_y12 ?_
    extract_lets -merge -useContext +onlyGivenNames -underBinder k2
    have h_k2:∀(n9:Int) (n10:Int) (n11:Int) (n12:Int) (s13:ByteArray) (C_k2_n9:Cu l1 n9) (I_k2_n11:I64 n11) (I_k2_n12:I64 n12) (S_k2_s13:s13.size≤1000),PQ zr62 zo62 (fun o=>Cu l1 (asI (outC o 0 1))∧I64 (asI (resC o 0 0))∧I64 (asI (resC o 0 1))∧I64 (asI (resC o 0 2))∧I64 (asI (resC o 0 3))∧(asS (resC o 0 4)).size≤1000∧EL [.i .i64,.s] 6000 (asL (resC o 0 5))∧True) (k2 n9 n10 n11 n12 s13):=by
     intro n9 n10 n11 n12 s13 C_k2_n9 I_k2_n11 I_k2_n12 S_k2_s13
     dsimp -zeta only [k2]
     extract_lets -merge -useContext +onlyGivenNames -underBinder y13
     refine pq_ite (fun g3=>?_) (fun g3=>?_)
     ·
      extract_lets -merge -useContext +onlyGivenNames -underBinder y14
      obtain ⟨a_y14,c_y14,-⟩:PQ zr17 zo17 _ y14:=d17 C_k2_n9 _ _
      clear_value y14
      refine pq_chk a_y14 ?_
      extract_lets -merge -useContext +onlyGivenNames -underBinder y15
      refine pq_ite (fun g4=>?_) (fun g4=>?_)
      ·
       extract_lets -merge -useContext +onlyGivenNames -underBinder y16
       extract_lets -merge -useContext +onlyGivenNames -underBinder y17
       extract_lets -merge -useContext +onlyGivenNames -underBinder y18
       obtain ⟨a_y18,c_y18,b_y18,-⟩:PQ zr29 zo29 _ y18:=d29 c_y14 _ _
       clear_value y18
       refine pq_chk a_y18 ?_
       extract_lets -merge -useContext +onlyGivenNames -underBinder y19
       extract_lets -merge -useContext +onlyGivenNames -underBinder y20
       extract_lets -merge -useContext +onlyGivenNames -underBinder y21
       extract_lets -merge -useContext +onlyGivenNames -underBinder y22
       extract_lets -merge -useContext +onlyGivenNames -underBinder y23
       extract_lets -merge -useContext +onlyGivenNames -underBinder y24
       refine lp62_3 _ _ _ _ _ _ _ _ _ _ _ _ _ _ _ _ _ _ _ (show I64 y3 from (show I64 (asI (resC y1 0 0)) from (i64_b b_y1))) (by have n0:([]:List (List D)).length=0:=rfl;have q_y18:=b_y18;rw [w64_in _ (by omega)];omega) (fun b72 l73 F_l73=>?_) 2000 KK _ _ (by omega) (by rw [KK_eq];omega) (el_mono (by decide) (show EL [.i .i64,.s] 60 y24 from (show EL [.i .i64,.s] 60 (asL (resC y8 0 0)) from p_y8)))
       exact ⟨rfl,c_y18,(show I64 y3 from (show I64 (asI (resC y1 0 0)) from (i64_b b_y1))),(show I64 y23 from (i64_w64 _)),I_k2_n11,I_k2_n12,(Nat.le_trans S_k2_s13 (by decide)),(el_mono (by decide) F_l73),trivial⟩
      ·
       extract_lets -merge -useContext +onlyGivenNames -underBinder y25
       extract_lets -merge -useContext +onlyGivenNames -underBinder y26
       extract_lets -merge -useContext +onlyGivenNames -underBinder y27
       extract_lets -merge -useContext +onlyGivenNames -underBinder y28
       exact ⟨rfl,c_y14,(show I64 y3 from (show I64 (asI (resC y1 0 0)) from (i64_b b_y1))),(show I64 y25 from (i64_w64 _)),I_k2_n11,I_k2_n12,(Nat.le_trans S_k2_s13 (by decide)),(el_mono (by decide) (show EL [.i .i64,.s] 60 y26 from (show EL [.i .i64,.s] 60 (asL (resC y8 0 0)) from p_y8))),trivial⟩
     ·
      refine pq_chk (by revert g3;generalize y13=u_y13;revert u_y13;decide) ?_
      extract_lets -merge -useContext +onlyGivenNames -underBinder y29
      extract_lets -merge -useContext +onlyGivenNames -underBinder y30
      exact ⟨rfl,C_k2_n9,(show I64 y3 from (show I64 (asI (resC y1 0 0)) from (i64_b b_y1))),(show I64 y29 from (i64_w64 _)),I_k2_n11,I_k2_n12,(Nat.le_trans S_k2_s13 (by decide)),(el_mono (by decide) (show EL [.i .i64,.s] 60 y30 from (show EL [.i .i64,.s] 60 (asL (resC y8 0 0)) from p_y8))),trivial⟩
    extract_lets -merge -useContext +onlyGivenNames -underBinder y31
    refine pq_ite (fun g5=>?_) (fun g5=>?_)
    ·
     extract_lets -merge -useContext +onlyGivenNames -underBinder y32
     extract_lets -merge -useContext +onlyGivenNames -underBinder y33
     extract_lets -merge -useContext +onlyGivenNames -underBinder y34
     obtain ⟨a_y34,c_y34,b_y34,-⟩:PQ zr29 zo29 _ y34:=d29 c_y12 _ _
     clear_value y34
     refine pq_chk a_y34 ?_
     extract_lets -merge -useContext +onlyGivenNames -underBinder y35
     exact h_k2 (asI (outC y34 0 1)) (asI (outC y34 0 2)) (w64 ((w64 ((100000:Int) - (y35.length:Int)))+(asI (resC y34 0 0)))) (1:Int) (⟨#[]⟩:ByteArray) c_y34 (i64_w64 _) (show I64 (1) by unfold I64;omega) (Nat.le_trans (show (⟨#[]⟩:ByteArray).size≤0 from Nat.le_of_eq rfl) (by decide))
    ·
     extract_lets -merge -useContext +onlyGivenNames -underBinder y36
     extract_lets -merge -useContext +onlyGivenNames -underBinder y37
     exact h_k2 y36 y37 n6 n7 s8 c_y12 I_k1_n6 I_k1_n7 (Nat.le_trans S_k1_s8 (by decide))
   ·
    refine pq_chk (by revert g2;generalize y9=u_y9;revert u_y9;decide) ?_
    extract_lets -merge -useContext +onlyGivenNames -underBinder y38
    refine pq_ite (fun g6=>?_) (fun g6=>?_)
    ·
     extract_lets -merge -useContext +onlyGivenNames -underBinder y39
     extract_lets -merge -useContext +onlyGivenNames -underBinder y40
     extract_lets -merge -useContext +onlyGivenNames -underBinder y41
     obtain ⟨a_y41,c_y41,-⟩:PQ zr17 zo17 _ y41:=d17 c_y8 _ _
     clear_value y41
     refine pq_chk a_y41 ?_
     extract_lets -merge -useContext +onlyGivenNames -underBinder y42
     refine pq_ite (fun g7=>?_) (fun g7=>?_)
     ·
      extract_lets -merge -useContext +onlyGivenNames -underBinder y43
      extract_lets -merge -useContext +onlyGivenNames -underBinder y44
      extract_lets -merge -useContext +onlyGivenNames -underBinder y45
      obtain ⟨a_y45,c_y45,b_y45,-⟩:PQ zr29 zo29 _ y45:=d29 c_y41 _ _
      clear_value y45
      refine pq_chk a_y45 ?_
      extract_lets -merge -useContext +onlyGivenNames -underBinder y46
      extract_lets -merge -useContext +onlyGivenNames -underBinder y47
      extract_lets -merge -useContext +onlyGivenNames -underBinder y48
      extract_lets -merge -useContext +onlyGivenNames -underBinder y49
      extract_lets -merge -useContext +onlyGivenNames -underBinder y50
      refine lp62_3 _ _ _ _ _ _ _ _ _ _ _ _ _ _ _ _ _ _ _ (show I64 y3 from (show I64 (asI (resC y1 0 0)) from (i64_b b_y1))) (by have n0:([]:List (List D)).length=0:=rfl;have q_y45:=b_y45;rw [w64_in _ (by omega)];omega) (fun b132 l133 F_l133=>?_) 2000 KK _ _ (by omega) (by rw [KK_eq];omega) (el_mono (by decide) (show EL [.i .i64,.s] 60 y50 from (show EL [.i .i64,.s] 60 (asL (resC y8 0 0)) from p_y8)))
      exact ⟨rfl,c_y45,(show I64 y3 from (show I64 (asI (resC y1 0 0)) from (i64_b b_y1))),(show I64 y49 from (i64_w64 _)),I_k1_n6,I_k1_n7,(Nat.le_trans S_k1_s8 (by decide)),(el_mono (by decide) F_l133),trivial⟩
     ·
      extract_lets -merge -useContext +onlyGivenNames -underBinder y51
      extract_lets -merge -useContext +onlyGivenNames -underBinder y52
      extract_lets -merge -useContext +onlyGivenNames -underBinder y53
      extract_lets -merge -useContext +onlyGivenNames -underBinder y54
      exact ⟨rfl,c_y41,(show I64 y3 from (show I64 (asI (resC y1 0 0)) from (i64_b b_y1))),(show I64 y51 from (i64_w64 _)),I_k1_n6,I_k1_n7,(Nat.le_trans S_k1_s8 (by decide)),(el_mono (by decide) (show EL [.i .i64,.s] 60 y52 from (show EL [.i .i64,.s] 60 (asL (resC y8 0 0)) from p_y8))),trivial⟩
    ·
     refine pq_chk (by revert g6;generalize y38=u_y38;revert u_y38;decide) ?_
     extract_lets -merge -useContext +onlyGivenNames -underBinder y55
     extract_lets -merge -useContext +onlyGivenNames -underBinder y56
     extract_lets -merge -useContext +onlyGivenNames -underBinder y57
     extract_lets -merge -useContext +onlyGivenNames -underBinder y58
     exact ⟨rfl,c_y8,(show I64 y3 from (show I64 (asI (resC y1 0 0)) from (i64_b b_y1))),(show I64 y55 from (i64_w64 _)),I_k1_n6,I_k1_n7,(Nat.le_trans S_k1_s8 (by decide)),(el_mono (by decide) (show EL [.i .i64,.s] 60 y56 from (show EL [.i .i64,.s] 60 (asL (resC y8 0 0)) from p_y8))),trivial⟩
  extract_lets -merge -useContext +onlyGivenNames -underBinder y59
  refine pq_ite (fun g8=>?_) (fun g8=>?_)
  ·
   extract_lets -merge -useContext +onlyGivenNames -underBinder y60
   extract_lets -merge -useContext +onlyGivenNames -underBinder y61
   extract_lets -merge -useContext +onlyGivenNames -underBinder y62
   obtain ⟨a_y62,c_y62,b_y62,-⟩:PQ zr29 zo29 _ y62:=d29 c_y7 _ _
   clear_value y62
   refine pq_chk a_y62 ?_
   extract_lets -merge -useContext +onlyGivenNames -underBinder y63
   obtain ⟨a_y63,c_y63,b_y63,-⟩:PQ zr29 zo29 _ y63:=d29 c_y62 _ _
   clear_value y63
   refine pq_chk a_y63 ?_
   extract_lets -merge -useContext +onlyGivenNames -underBinder y64
   obtain ⟨a_y64,c_y64,p_y64,-⟩:PQ zr28 zo28 _ y64:=d28 c_y63 _ _ (by decide)
   clear_value y64
   refine pq_chk a_y64 ?_
   exact h_k1 (asI (outC y64 0 1)) (asI (outC y64 0 2)) (w64 ((1:Int)+(asI (resC y62 0 0)))) (w64 ((1:Int)+(asI (resC y63 0 0)))) (asS (resC y64 0 0)) c_y64 (i64_w64 _) (i64_w64 _) (Nat.le_trans (show (asS (resC y64 0 0)).size≤1000 from p_y64) (by decide))
  ·
   extract_lets -merge -useContext +onlyGivenNames -underBinder y65
   extract_lets -merge -useContext +onlyGivenNames -underBinder y66
   exact h_k1 y65 y66 (0:Int) (0:Int) (⟨#[]⟩:ByteArray) c_y7 (show I64 (0) by unfold I64;omega) (show I64 (0) by unfold I64;omega) (Nat.le_trans (show (⟨#[]⟩:ByteArray).size≤0 from Nat.le_of_eq rfl) (by decide))
 ·
  refine pq_chk (by revert g1;generalize y4=u_y4;revert u_y4;decide) ?_
  extract_lets -merge -useContext +onlyGivenNames -underBinder y67
  extract_lets -merge -useContext +onlyGivenNames -underBinder y68
  extract_lets -merge -useContext +onlyGivenNames -underBinder y69
  obtain ⟨a_y69,c_y69,p_y69,-⟩:PQ zr38 zo38 _ y69:=d38 c_y2 _ _ _ _ (by decide) (show I64 (0) by unfold I64;omega)
  clear_value y69
  refine pq_chk a_y69 ?_
  extract_lets -merge -useContext +onlyGivenNames -underBinder y70
  refine pq_ite (fun g9=>?_) (fun g9=>?_)
  ·
   extract_lets -merge -useContext +onlyGivenNames -underBinder y71
   extract_lets -merge -useContext +onlyGivenNames -underBinder y72
   extract_lets -merge -useContext +onlyGivenNames -underBinder y73
   obtain ⟨a_y73,c_y73,-⟩:PQ zr17 zo17 _ y73:=d17 c_y69 _ _
   clear_value y73
   refine pq_chk a_y73 ?_
   extract_lets -merge -useContext +onlyGivenNames -underBinder k3
   have h_k3:∀(n134:Int) (n135:Int) (n136:Int) (n137:Int) (C_k3_n134:Cu l1 n134) (I_k3_n136:I64 n136) (I_k3_n137:I64 n137),PQ zr62 zo62 (fun o=>Cu l1 (asI (outC o 0 1))∧I64 (asI (resC o 0 0))∧I64 (asI (resC o 0 1))∧I64 (asI (resC o 0 2))∧I64 (asI (resC o 0 3))∧(asS (resC o 0 4)).size≤1000∧EL [.i .i64,.s] 6000 (asL (resC o 0 5))∧True) (k3 n134 n135 n136 n137):=by
    intro n134 n135 n136 n137 C_k3_n134 I_k3_n136 I_k3_n137
    dsimp -zeta only [k3]
    extract_lets -merge -useContext +onlyGivenNames -underBinder y74
    refine pq_ite (fun g10=>?_) (fun g10=>?_)
    ·
     extract_lets -merge -useContext +onlyGivenNames -underBinder y75
     obtain ⟨a_y75,c_y75,-⟩:PQ zr17 zo17 _ y75:=d17 C_k3_n134 _ _
     clear_value y75
     refine pq_chk a_y75 ?_
     extract_lets -merge -useContext +onlyGivenNames -underBinder y76
     refine pq_ite (fun g11=>?_) (fun g11=>?_)
     ·
      extract_lets -merge -useContext +onlyGivenNames -underBinder y77
      extract_lets -merge -useContext +onlyGivenNames -underBinder y78
      extract_lets -merge -useContext +onlyGivenNames -underBinder y79
      obtain ⟨a_y79,c_y79,b_y79,-⟩:PQ zr29 zo29 _ y79:=d29 c_y75 _ _
      clear_value y79
      refine pq_chk a_y79 ?_
      extract_lets -merge -useContext +onlyGivenNames -underBinder y80
      extract_lets -merge -useContext +onlyGivenNames -underBinder y81
      extract_lets -merge -useContext +onlyGivenNames -underBinder y82
      extract_lets -merge -useContext +onlyGivenNames -underBinder y83
      extract_lets -merge -useContext +onlyGivenNames -underBinder y84
      refine lp62_3 _ _ _ _ _ _ _ _ _ _ _ _ _ _ _ _ _ _ _ (show I64 y3 from (show I64 (asI (resC y1 0 0)) from (i64_b b_y1))) (by have n0:([]:List (List D)).length=0:=rfl;have q_y79:=b_y79;rw [w64_in _ (by omega)];omega) (fun b196 l197 F_l197=>?_) 2000 KK _ _ (by omega) (by rw [KK_eq];omega) (el_mono (by decide) (show EL [.i .i64,.s] 60 y84 from (show EL [.i .i64,.s] 60 (asL (resC y69 0 0)) from p_y69)))
      exact ⟨rfl,c_y79,(show I64 y3 from (show I64 (asI (resC y1 0 0)) from (i64_b b_y1))),(show I64 y83 from (i64_w64 _)),I_k3_n136,I_k3_n137,(Nat.le_trans (show (⟨#[]⟩:ByteArray).size≤0 from Nat.le_of_eq rfl) (by decide)),(el_mono (by decide) F_l197),trivial⟩
     ·
      extract_lets -merge -useContext +onlyGivenNames -underBinder y85
      extract_lets -merge -useContext +onlyGivenNames -underBinder y86
      extract_lets -merge -useContext +onlyGivenNames -underBinder y87
      extract_lets -merge -useContext +onlyGivenNames -underBinder y88
      exact ⟨rfl,c_y75,(show I64 y3 from (show I64 (asI (resC y1 0 0)) from (i64_b b_y1))),(show I64 y85 from (i64_w64 _)),I_k3_n136,I_k3_n137,(Nat.le_trans (show (⟨#[]⟩:ByteArray).size≤0 from Nat.le_of_eq rfl) (by decide)),(el_mono (by decide) (show EL [.i .i64,.s] 60 y86 from (show EL [.i .i64,.s] 60 (asL (resC y69 0 0)) from p_y69))),trivial⟩
    ·
     refine pq_chk (by revert g10;generalize y74=u_y74;revert u_y74;decide) ?_
     extract_lets -merge -useContext +onlyGivenNames -underBinder y89
     extract_lets -merge -useContext +onlyGivenNames -underBinder y90
     exact ⟨rfl,C_k3_n134,(show I64 y3 from (show I64 (asI (resC y1 0 0)) from (i64_b b_y1))),(show I64 y89 from (i64_w64 _)),I_k3_n136,I_k3_n137,(Nat.le_trans (show (⟨#[]⟩:ByteArray).size≤0 from Nat.le_of_eq rfl) (by decide)),(el_mono (by decide) (show EL [.i .i64,.s] 60 y90 from (show EL [.i .i64,.s] 60 (asL (resC y69 0 0)) from p_y69))),trivial⟩
   extract_lets -merge -useContext +onlyGivenNames -underBinder y91
   refine pq_ite (fun g12=>?_) (fun g12=>?_)
   ·
    extract_lets -merge -useContext +onlyGivenNames -underBinder y92
    extract_lets -merge -useContext +onlyGivenNames -underBinder y93
    extract_lets -merge -useContext +onlyGivenNames -underBinder y94
    obtain ⟨a_y94,c_y94,b_y94,-⟩:PQ zr29 zo29 _ y94:=d29 c_y73 _ _
    clear_value y94
    refine pq_chk a_y94 ?_
    extract_lets -merge -useContext +onlyGivenNames -underBinder y95
    exact h_k3 (asI (outC y94 0 1)) (asI (outC y94 0 2)) (w64 ((w64 ((100000:Int) - (y95.length:Int)))+(asI (resC y94 0 0)))) (1:Int) c_y94 (i64_w64 _) (show I64 (1) by unfold I64;omega)
   ·
    extract_lets -merge -useContext +onlyGivenNames -underBinder y96
    extract_lets -merge -useContext +onlyGivenNames -underBinder y97
    exact h_k3 y96 y97 (0:Int) (0:Int) c_y73 (show I64 (0) by unfold I64;omega) (show I64 (0) by unfold I64;omega)
  ·
   refine pq_chk (by revert g9;generalize y70=u_y70;revert u_y70;decide) ?_
   extract_lets -merge -useContext +onlyGivenNames -underBinder y98
   refine pq_ite (fun g13=>?_) (fun g13=>?_)
   ·
    extract_lets -merge -useContext +onlyGivenNames -underBinder y99
    extract_lets -merge -useContext +onlyGivenNames -underBinder y100
    extract_lets -merge -useContext +onlyGivenNames -underBinder y101
    obtain ⟨a_y101,c_y101,-⟩:PQ zr17 zo17 _ y101:=d17 c_y69 _ _
    clear_value y101
    refine pq_chk a_y101 ?_
    extract_lets -merge -useContext +onlyGivenNames -underBinder y102
    refine pq_ite (fun g14=>?_) (fun g14=>?_)
    ·
     extract_lets -merge -useContext +onlyGivenNames -underBinder y103
     extract_lets -merge -useContext +onlyGivenNames -underBinder y104
     extract_lets -merge -useContext +onlyGivenNames -underBinder y105
     obtain ⟨a_y105,c_y105,b_y105,-⟩:PQ zr29 zo29 _ y105:=d29 c_y101 _ _
     clear_value y105
     refine pq_chk a_y105 ?_
     extract_lets -merge -useContext +onlyGivenNames -underBinder y106
     extract_lets -merge -useContext +onlyGivenNames -underBinder y107
     extract_lets -merge -useContext +onlyGivenNames -underBinder y108
     extract_lets -merge -useContext +onlyGivenNames -underBinder y109
     refine lp62_3 _ _ _ _ _ _ _ _ _ _ _ _ _ _ _ _ _ _ _ (show I64 y3 from (show I64 (asI (resC y1 0 0)) from (i64_b b_y1))) (by have n0:([]:List (List D)).length=0:=rfl;have q_y105:=b_y105;rw [w64_in _ (by omega)];omega) (fun b256 l257 F_l257=>?_) 2000 KK _ _ (by omega) (by rw [KK_eq];omega) (el_mono (by decide) (show EL [.i .i64,.s] 60 y109 from (show EL [.i .i64,.s] 60 (asL (resC y69 0 0)) from p_y69)))
     exact ⟨rfl,c_y105,(show I64 y3 from (show I64 (asI (resC y1 0 0)) from (i64_b b_y1))),(show I64 y108 from (i64_w64 _)),(show I64 (0) by unfold I64;omega),(show I64 (0) by unfold I64;omega),(Nat.le_trans (show (⟨#[]⟩:ByteArray).size≤0 from Nat.le_of_eq rfl) (by decide)),(el_mono (by decide) F_l257),trivial⟩
    ·
     extract_lets -merge -useContext +onlyGivenNames -underBinder y110
     extract_lets -merge -useContext +onlyGivenNames -underBinder y111
     extract_lets -merge -useContext +onlyGivenNames -underBinder y112
     extract_lets -merge -useContext +onlyGivenNames -underBinder y113
     exact ⟨rfl,c_y101,(show I64 y3 from (show I64 (asI (resC y1 0 0)) from (i64_b b_y1))),(show I64 y110 from (i64_w64 _)),(show I64 (0) by unfold I64;omega),(show I64 (0) by unfold I64;omega),(Nat.le_trans (show (⟨#[]⟩:ByteArray).size≤0 from Nat.le_of_eq rfl) (by decide)),(el_mono (by decide) (show EL [.i .i64,.s] 60 y111 from (show EL [.i .i64,.s] 60 (asL (resC y69 0 0)) from p_y69))),trivial⟩
   ·
    refine pq_chk (by revert g13;generalize y98=u_y98;revert u_y98;decide) ?_
    extract_lets -merge -useContext +onlyGivenNames -underBinder y114
    extract_lets -merge -useContext +onlyGivenNames -underBinder y115
    extract_lets -merge -useContext +onlyGivenNames -underBinder y116
    extract_lets -merge -useContext +onlyGivenNames -underBinder y117
    exact ⟨rfl,c_y69,(show I64 y3 from (show I64 (asI (resC y1 0 0)) from (i64_b b_y1))),(show I64 y114 from (i64_w64 _)),(show I64 (0) by unfold I64;omega),(show I64 (0) by unfold I64;omega),(Nat.le_trans (show (⟨#[]⟩:ByteArray).size≤0 from Nat.le_of_eq rfl) (by decide)),(el_mono (by decide) (show EL [.i .i64,.s] 60 y115 from (show EL [.i .i64,.s] 60 (asL (resC y69 0 0)) from p_y69))),trivial⟩

end Go.Den.L4
