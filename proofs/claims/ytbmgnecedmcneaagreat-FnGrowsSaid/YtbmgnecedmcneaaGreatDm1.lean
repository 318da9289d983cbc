/- The evaluator of Go code over plain data, and its soundness: part 1 of 9. -/
import Derived.Calls
import Derived.Orders
import Derived.Tactics
import Derived.Laws.AppendOwn
import Derived.Laws.Rows
import Derived.Laws.Tables
import Derived.Laws.Cells
import Derived.Laws.Entries
import Derived.ChangeKeysEq
import Derived.Laws.BytesArg
import Derived.Laws.Small
import Derived.Laws.Pointers
import Derived.Laws.StructEq
set_option linter.unusedVariables false
set_option linter.unusedSimpArgs false
/- The evaluator of the model's Code over plain trees of data: definitions alone. -/
namespace Go.Den
open Go

inductive D where
 | b (x:Bool) | i (k:IntKind) (n:Int) | s (x:ByteArray) | l (xs:List (List D))

inductive SV where
 | d (x : D)                        -- a scalar; a slice that is only read
 | nils                             -- the nil slice
 | own (n : Nat)                    -- the header of the own row n
 | ptr (n off : Nat)                -- into the own variable n
 | nilp
 | pv (cs : List D) (off : Nat)     -- into cells that are only read
 | rp (n i off : Nat)               -- into element i of the own row n
 | agg (cs:List SV) | tup (vs:List SV)
 | fn (f:Nat)
 | op (b : Bool) (cs : List D)      -- into cells that are only read, or nil
 | fp (f n off : Nat)               -- a function with its first argument: a pointer into the own variable n
 | fb (f : Nat) (cs : List D)       -- .. a pointer to cells that are only read
 | ov (n k : Nat)                   -- the first k of the own row n, only read
 | bx (n j : Nat) (x : D)           -- in a variable: what its cell (n, j) held when the call began; only read
 | undef

inductive Blk where
 | box (cs:List SV)
 | row (e sz:Nat) (xs:List (List D))

abbrev Path:=List (Nat × Bool)

structure St where
 m:List SV
 l:List (Nat × Path × Bool × SV)
 h:List (Nat × Blk)

inductive DV where
 | one (x:D) | agg (xs:List D) | ptr (xs:List D)

inductive Mode where
 | fnp (f sz:Nat) | bor | rptr (sz:Nat) | ptr (ks:List (Option (Nat × Nat))) | own (ks:List (Option (Nat × Nat))) | io (ks:List (Option (Nat × Nat)))
inductive RMode where
 | sc (zs:List DV) | fresh (kss:List (List (Option (Nat × Nat)))) | nptr (ks:List (Option (Nat × Nat)))
 | ep (zs : List D) -- a pointer to what is only read, or nil: whether, and the cells
 | freshT (zs : List DV) (kss : List (List (Option (Nat × Nat)))) -- fresh if the last result is true; else only the last one counts

structure Sig where
 ms:List Mode
 r:RMode
 keep:List Nat
 ord:List (Nat × List (Nat × Nat × List Nat))

inductive Ty where
 | int (k:IntKind) | bool | str | sl (e:TypeId) | ptr (e:TypeId) | st (fs:List (Nat × Nat)) (zs:List D) | other

def jzl:Value→Option D
 | .bool x=>some (.b x)
 | .int k n=>some (.i k n)
 | .string x=>some (.s x)
 | .slice none 0 0=>some (.l [])
 | _=>none
def jhi:List Value→Option (List D)
 | []=>some []
 | v :: vs=>match jzl v,jhi vs with | some x,some xs=>some (x :: xs) | _,_=>none
def fsOf (P:Program):List Field→Option (List (Nat × Nat))
 | []=>some []
 | f :: fs=>match P.info? f.type,fsOf P fs with | some i,some r=>if i.size=0 then none else some ((f.offset,i.size) :: r) | _,_=>none

def tyOf (P:Program) (t:TypeId):Ty :=
 match P.info? t with
 | none=>.other
 | some i=>match P.underlying t,i.zero with
  | some .bool,some (.bool false)=>if i.size=1 then .bool else .other
  | some (.int k),some (.int k' 0)=>if i.size=1∧k'=k then .int k else .other
  | some .string,some (.string s)=>if i.size=1∧s=⟨#[]⟩ then .str else .other
  | some (.slice e),some (.slice none 0 0)=>if i.size=1 then .sl e else .other
  | some (.pointer e),some (.pointer none)=>if i.size=1 then .ptr e else .other
  | some (.struct fs),some (.agg cs)=>match jhi cs.toList,fsOf P fs.toList with
   | some zs,some r=>if i.size=zs.length then .st r zs else .other
   | _,_=>.other
  | _,_=>.other

def Ty.zeros:Ty→Option (List D)
 | .int k=>some [.i k 0] | .bool=>some [.b false] | .str=>some [.s ⟨#[]⟩] | .sl _=>some [.l []]
 | .st _ zs=>some zs
 | _=>none
def Ty.size:Ty→Nat | .st _ zs=>zs.length | _=>1
def isAggTy:Ty→Bool | .st ..=>true | _=>false
def okTy:Ty→Bool | .other=>false | _=>true

def lk:List (Nat × Path × Bool × SV)→Nat→Option (Path × Bool × SV)
 | [],_=>none
 | (a,v) :: r,t=>if a=t then some v else lk r t
def lkm:List Nat→List SV→Nat→SV
 | k :: ks,v :: vs,t=>if k=t then v else lkm ks vs t
 | _,_,_=>.undef
def stm:List Nat→List SV→Nat→SV→List SV
 | k :: ks,v :: vs,t,x=>if k=t then x :: vs else v :: stm ks vs t x
 | _,vs,_,_=>vs
def isIn:List Nat→Nat→Bool
 | [],_=>false
 | k :: ks,t=>if k=t then true else isIn ks t
def pre:Path→Path→Bool
 | [],_=>true
 | (a,x) :: p,(b,y) :: q=>if a=b then if x=y then pre p q else false else false
 | _,_=>false
def nth {α:Type}:List α→Nat→α→α
 | [],_,z=>z
 | x :: _,0,_=>x
 | _ :: xs,n+1,z=>nth xs n z
def nth? {α:Type}:List α→Nat→Option α
 | [],_=>none
 | x :: _,0=>some x
 | _ :: xs,n+1=>nth? xs n
def hlk:List (Nat × Blk)→Nat→Option Blk
 | [],_=>none
 | (a,v) :: r,n=>if a=n then some v else hlk r n
def hset:List (Nat × Blk)→Nat→Blk→List (Nat × Blk)
 | [],n,x=>[(n,x)]
 | (a,v) :: r,n,x=>if a=n then (a,x) :: r else (a,v) :: hset r n x
def hdel:List (Nat × Blk)→Nat→List (Nat × Blk)
 | [],_=>[]
 | (a,v) :: r,n=>if a=n then hdel r n else (a,v) :: hdel r n
def setRange:List SV→Nat→List SV→List SV
 | cs,0,[]=>cs
 | _ :: cs,0,v :: vs=>v :: setRange cs 0 vs
 | c :: cs,o+1,vs=>c :: setRange cs o vs
 | [],_,_=>[]

structure Ctx where
 P:Program
 sig:Nat→Sig
 F:Nat→List DV→Bool × List DV × List (List D)
 keep:List Nat
 ord:List (Nat × List (Nat × Nat × List Nat))

def gt (C:Ctx) (st:St) (p:Path) (t:Nat):SV :=
 match lk st.l t with
 | some (q,_,v)=>if pre q p then v else .undef
 | none=>lkm C.keep st.m t
def pt (C:Ctx) (st:St) (p:Path) (c:Bool) (o:Option Nat) (v:SV):St :=
 match o with
 | none=>st
 | some t=>if isIn C.keep t then (match p with | []=>{ st with m:=stm C.keep st.m t v } | _=>{ st with m:=stm C.keep st.m t .undef }) else { st with l:=(t,p,c,v) :: st.l }

def ofConst:Value→SV
 | .bool x=>.d (.b x) | .int k n=>.d (.i k n) | .string x=>.d (.s x) | .slice none 0 0=>.nils | .pointer none=>.nilp
 | _=>.undef
def ev (C:Ctx) (st:St) (p:Path):Operand→SV
 | .tmp t=>gt C st p t | .const v=>ofConst v | .func f=>.fn f | .global _=>.undef
def evs (C:Ctx) (st:St) (p:Path):List Operand→List SV
 | []=>[]
 | x :: xs=>ev C st p x :: evs C st p xs

def lim:Nat:=68719476736
def wk:Nat:=999999999

def binI (op:BinOp) (k:IntKind) (a b:Int):Option (Bool × D) :=
 match op with
 | .add=>some (true,.i k (k.wrap (a+b))) | .sub=>some (true,.i k (k.wrap (a - b))) | .mul=>some (true,.i k (k.wrap (a * b)))
 | .quo=>some (b != 0,.i k (k.wrap (a.tdiv b)))
 | .rem=>some (b != 0,.i k (a.tmod b))
 | .and=>some (true,.i k (k.wrap (BitVec.ofInt k.bits a &&& BitVec.ofInt k.bits b).toNat))
 | .or=>some (true,.i k (k.wrap (BitVec.ofInt k.bits a ||| BitVec.ofInt k.bits b).toNat))
 | .xor=>some (true,.i k (k.wrap (BitVec.ofInt k.bits a ^^^ BitVec.ofInt k.bits b).toNat))
 | .eql=>some (true,.b (a==b)) | .neq=>some (true,.b (a != b)) | .lss=>some (true,.b (a < b)) | .leq=>some (true,.b (a≤b)) | .gtr=>some (true,.b (a > b)) | .geq=>some (true,.b (a ≥ b))
 | _=>none
def jhn (op:BinOp) (k:IntKind) (a b:Int):Option (Bool × D) :=
 match op with
 | .shl=>some (decide (0≤b),.i k (k.wrap (a * 2 ^ (min b.toNat k.bits))))
 | .shr=>some (decide (0≤b),.i k (a.fdiv (2 ^ (min b.toNat k.bits))))
 | _=>none
def isShift:BinOp→Bool | .shl | .shr=>true | _=>false
def binS (op:BinOp) (a b:ByteArray):Option (Bool × D) :=
 match op with
 | .add=>some (decide (a.size+b.size≤lim),.s (a++b)) | .eql=>some (true,.b (a.toList==b.toList)) | .neq=>some (true,.b (!(a.toList==b.toList)))
 | .geq=>some (true,.b (!Op.bytesLess a.toList b.toList)) | .lss=>some (true,.b (Op.bytesLess a.toList b.toList))
 | _=>none
def binB (op:BinOp) (a b:Bool):Option (Bool × D) :=
 match op with
 | .eql=>some (true,.b (a==b)) | .neq=>some (true,.b (!(a==b))) | _=>none
def isPtr:SV→Bool | .ptr _ _ | .pv _ _ | .rp _ _ _=>true | _=>false
def binP (op:BinOp) (r:Bool):Option (Bool × D):=match op with | .eql=>some (true,.b r) | .neq=>some (true,.b (!r)) | _=>none
def bin (ty:Ty) (op:BinOp):SV→SV→Option (Bool × D)
 | .d (.i k a),.d (.i k' b)=>if isShift op then jhn op k a b else if k=k' then binI op k a b else none
 | .d (.s a),.d (.s b)=>binS op a b
 | .d (.b a),.d (.b b)=>(match ty with | .bool=>binB op a b | _=>none)
 | .nilp,.nilp=>(match ty with | .ptr _=>binP op true | _=>none)
 | .op b _,.nilp=>(match ty with | .ptr _=>binP op (!b) | _=>none)
 | x,.nilp=>if isPtr x then (match ty with | .ptr _=>binP op false | _=>none) else none
 | _,_=>none
def eqC:Nat→D→D→Option Bool
 | 1,.i k a,.i k' b=>if k=k' then some (a==b) else none
 | 2,.s a,.s b=>some (a.toList==b.toList)
 | 0,.b a,.b b=>some (a==b)
 | _,_,_=>none
def eqCs:List Nat→List SV→List SV→Option Bool
 | [],[],[]=>some true
 | k :: ks,.d x :: xs,.d y :: ys=>(match eqC k x y,eqCs ks xs ys with | some a,some b=>some (a&&b) | _,_=>none)
 | _,_,_=>none
def eqFs (f:TypeId→Option (List Nat)):Nat→List Field→Option (List Nat)
 | _,[]=>some []
 | n,x :: xs=>if x.name = "_" ∨ x.offset≠n then none else match f x.type with | some k=>(match eqFs f (n+k.length) xs with | some r=>some (k++r) | none=>none) | none=>none
def eqTy (P:Program):Nat→TypeId→Option (List Nat)
 | 0,_=>none
 | d+1,t=>match P.underlying t with
  | some .bool=>some [0]
  | some (.int _)=>some [1]
  | some .string=>some [2]
  | some (.struct fs)=>(match P.info? t,eqFs (eqTy P d) 0 fs.toList with | some i,some n=>if P.stoodInHeld t=false∧i.size=n.length then some n else none | _,_=>none)
  | _=>none

def eqK (P:Program) (t:TypeId):Option (List Nat) :=
 match P.underlying t with | some (.struct _)=>if P.eqGuardType P.depth t then none else eqTy P 8 t | _=>none
def cellsOf:SV→List SV | .agg cs=>cs | v=>[v]
def dOf:SV→D | .d x=>x | _=>.l []
def fieldAg (P:Program) (t:TypeId) (f:Nat):Option Nat :=
 match P.underlying t with
 | some (.struct F)=>(match F[f]? with | some fl=>(match P.underlying fl.type,P.info? fl.type with | some (.struct _),some i=>some i.size | _,_=>none) | none=>none)
 | _=>none
def unbx:SV→SV | .bx _ _ x=>.d x | v=>v
def unbxs:List SV→List SV | []=>[] | v :: vs=>unbx v :: unbxs vs
def load (C:Ctx) (st:St) (t:TypeId):SV→Option SV
 | .ptr n off=>match hlk st.h n with
  | some (.box cs)=>if isAggTy (tyOf C.P t) then (if off+(tyOf C.P t).size≤cs.length then some (.agg (unbxs ((cs.drop off).take (tyOf C.P t).size))) else none) else if okTy (tyOf C.P t) then (nth? cs off).map unbx else none
  | _=>none
 | .pv cs off=>if isAggTy (tyOf C.P t) then (if off+(tyOf C.P t).size≤cs.length then some (.agg (((cs.drop off).take (tyOf C.P t).size).map .d)) else none) else if okTy (tyOf C.P t) then (nth? cs off).map .d else none
 | _=>none
def fieldOff (ty:Ty) (f:Nat):Option Nat:=match ty with | .st fs _=>(nth? fs f).map (·.1) | _=>none

def jep (P:Program) (t:TypeId) (f:Nat):Bool :=
 match P.underlying t with
 | some (.struct F)=>(match F[f]? with | some fl=>(match P.underlying fl.type with | some (.struct _) | some (.array _ _) | none=>false | _=>true) | none=>false)
 | _=>false

def toD (st:St):SV→Option D
 | .d x=>some x
 | .nils=>some (.l [])
 | .bx _ _ x=>some x
 | .own n=>match hlk st.h n with | some (.row _ _ xs)=>some (.l xs) | _=>none
 | .ov n k=>match hlk st.h n with | some (.row _ _ xs)=>some (.l (xs.take k)) | _=>none
 | _=>none
def toDs (st:St):List SV→Option (List D)
 | []=>some []
 | v :: vs=>match toD st v with | some x=>(match toDs st vs with | some xs=>some (x :: xs) | none=>none) | none=>none
def argOf (st:St):Mode→SV→Option DV
 | .bor,.agg cs=>(toDs st cs).map .agg
 | .bor,v=>(toD st v).map .one
 | .rptr sz,.ptr n off=>match hlk st.h n with | some (.box cs)=>(if off+sz≤cs.length then (toDs st ((cs.drop off).take sz)).map .ptr else none) | _=>none
 | .rptr sz,.pv cs off=>if off+sz≤cs.length then some (.ptr ((cs.drop off).take sz)) else none
 | .fnp f sz,.fp g n off=>if f=g then (match hlk st.h n with | some (.box cs)=>(if off+sz≤cs.length then (toDs st ((cs.drop off).take sz)).map .ptr else none) | _=>none) else none
 | .fnp f sz,.fb g cs=>if f=g∧cs.length=sz then some (.ptr cs) else none
 | _,_=>none
def borD:SV→Option D | .d x=>some x | _=>none
def jfo:List SV→Option (List D)
 | []=>some []
 | v :: vs=>match borD v,jfo vs with | some x,some xs=>some (x :: xs) | _,_=>none
def jrs:Mode→SV→Option DV
 | .bor,.agg cs=>(jfo cs).map .agg
 | .bor,.d x=>some (.one x)
 | .rptr sz,.pv cs off=>if off+sz≤cs.length then some (.ptr ((cs.drop off).take sz)) else none
 | _,_=>none
def jud:List Mode→List SV→Option (List DV)
 | [],[]=>some []
 | m :: ms,v :: vs=>match jrs m v with | some x=>(match jud ms vs with | some xs=>some (x :: xs) | none=>none) | none=>none
 | _,_=>none
def zipArgs (st:St):List Mode→List SV→Option (List DV)
 | [],[]=>some []
 | m :: ms,v :: vs=>match argOf st m v with | some x=>(match zipArgs st ms vs with | some xs=>some (x :: xs) | none=>none) | none=>none
 | _,_=>none
def svOf:DV→SV | .one x=>.d x | .agg xs=>.agg (xs.map .d) | .ptr _=>.undef
def svsOf:List DV→List SV | []=>[] | x :: xs=>svOf x :: svsOf xs
def single (vs:List SV):SV:=match vs with | [v]=>v | vs=>.tup vs
def opt {α:Type} (r:Bool × α):Option α:=if r.1 then some r.2 else none
def scOf (r:Bool × List DV × List (List D)):Bool × SV:=(r.2.2.isEmpty&&r.1,single (svsOf r.2.1))

def epOf (r:Bool × List DV × List (List D)):Bool × SV:=(r.2.2.isEmpty&&r.1,match r.2.1 with | [.one (.b b),.agg ds]=>.op b ds | _=>.undef)
def jro (C:Ctx) (st:St) (f:Nat) (cs:List D) (vs:List SV):Option (Bool × SV) :=
 match (C.sig f).ms,(C.sig f).r with
 | .rptr sz :: ms,.sc _=>if cs.length=sz then (match zipArgs st ms vs with | some xs=>some (scOf (C.F f (.ptr cs :: xs))) | none=>none) else none
 | _,_=>none
def lenOf (st:St):Ty→SV→Option Nat
 | .str,.d (.s x)=>some x.size
 | .sl _,.d (.l xs)=>some xs.length
 | .sl _,.nils=>some 0
 | .sl _,.own n=>match hlk st.h n with | some (.row _ _ xs)=>some xs.length | _=>none
 | _,_=>none
def zsOf (C:Ctx) (t:TypeId):Option (Option (List D)):=match tyOf C.P t with | .sl e=>(tyOf C.P e).zeros.map some | .str=>some none | _=>none
def sliceD (zs:Option (Option (List D))) (x:D) (l:Int) (h:Option Int):Option (Bool × D) :=
 match zs,x with
 | some none,.s s=>(match h with
  | some h=>some (decide (0≤l∧l≤h∧h≤s.size),.s (s.extract l.toNat h.toNat))
  | none=>some (decide (0≤l∧l≤s.size),.s (s.extract l.toNat s.size)))
 | some (some zs),.l xs=>(match h with
  | some h=>some (decide (0≤l∧l≤h∧h≤xs.length∧(xs.getD 0 zs).length=zs.length),.l ((xs.take h.toNat).drop l.toNat))
  | none=>some (decide (0≤l∧l≤xs.length∧(xs.getD 0 zs).length=zs.length),.l (xs.drop l.toNat)))
 | _,_=>none
def bytesD:List (List D)→List UInt8
 | [.i _ n] :: r=>UInt8.ofNat n.toNat :: bytesD r
 | _=>[]
def isBytes:List (List D)→Bool
 | []=>true
 | [.i .u8 _] :: r=>isBytes r
 | _=>false
def isSc:D→Bool | .l _=>false | _=>true
def flatZ:List D→Bool | []=>true | x :: xs=>isSc x&&flatZ xs
def asB:D→Bool | .b x=>x | _=>false
def asI:D→Int | .i _ n=>n | _=>0
def asS:D→ByteArray | .s x=>x | _=>⟨#[]⟩
def asL:D→List (List D) | .l xs=>xs | _=>[]
def etaD:D→D→D
 | .b _,x=>.b (asB x) | .i k _,x=>.i k (asI x) | .s _,x=>.s (asS x) | .l _,x=>.l (asL x)
def isD:D→D→Bool
 | .b _,.b _=>true | .i k _,.i k' _=>decide (k=k') | .s _,.s _=>true | .l _,.l _=>true | _,_=>false
def nthD:List D→Nat→D | [],_=>.b false | x :: _,0=>x | _ :: xs,n+1=>nthD xs n
def etaF:List D→Nat→List D→List D
 | [],_,_=>[] | z :: zs,j,xs=>etaD z (nthD xs j) :: etaF zs (j+1) xs
def isF:List D→Nat→List D→Bool
 | [],_,_=>true | z :: zs,j,xs=>isD z (nthD xs j)&&isF zs (j+1) xs
def isRow (zs xs:List D):Bool:=decide (xs.length=zs.length)&&isF zs 0 xs
def okSV:SV→Bool | .tup _ | .undef=>false | _=>true
def svZ:D→SV | .l []=>.nils | z=>.d z
def svZs:List D→List SV | []=>[] | z :: zs=>svZ z :: svZs zs
def fillB (C:Ctx) (st:St) (p:Path) (fs:List (Nat × Nat)):List (Nat × Operand)→List SV→Option (List SV)
 | [],cs=>some cs
 | (i,x) :: r,cs=>match nth? fs i with
  | some f=>if okSV (ev C st p x)=true∧(cellsOf (ev C st p x)).length=f.2∧f.1+(cellsOf (ev C st p x)).length≤cs.length then fillB C st p fs r (setRange cs f.1 (cellsOf (ev C st p x))) else none
  | none=>none

def light (C:Ctx) (st:St) (p:Path) (op:Op):Option (Bool × SV) :=
 match op with
 | .move x | .assign x=>some (true,ev C st p x)
 | .pick (.tmp t) a b=>match gt C st p t,ev C st (p++[(t,true)]) a,ev C st (p++[(t,false)]) b with
  | .d (.b x),.d (.b y),.d (.b z)=>some (true,.d (.b (bif x then y else z)))
  | .d (.b x),.d (.b y),.undef=>some (x,.d (.b y))
  | .d (.b x),.undef,.d (.b z)=>some (!x,.d (.b z))
  | _,_,_=>none
 | .build t parts=>match tyOf C.P t with
  | .st fs zs=>(fillB C st p fs parts.toList (svZs zs)).map fun cs=>(true,.agg cs)
  | _=>none
 | .load t a=>match ev C st p a with
  | .rp n i off=>(match hlk st.h n,(tyOf C.P t).zeros with
   | some (.row _ _ xs),some (z :: zs)=>if flatZ (z :: zs) then some (decide (off+(z :: zs).length≤(xs.getD i []).length)&&isF (z :: zs) off (xs.getD i []),
     if isAggTy (tyOf C.P t) then .agg ((etaF (z :: zs) off (xs.getD i [])).map .d) else .d (etaD z (nthD (xs.getD i []) off))) else none
   | _,_=>none)
  | v=>(load C st t v).map (true,·)
 | .makeFunc (.func f) fs cap=>(match fs.toList,cap.toList with
  | [x],[]=>(match ev C st p x with | .ptr n off=>some (true,.fp f n off) | _=>none)
  | _,_=>none)
 | .nilCheck x=>match ev C st p x with | .op b cs=>some (b,.pv cs 0) | .ptr b o=>some (true,.ptr b o) | .pv c o=>some (true,.pv c o) | .rp b i o=>some (true,.rp b i o) | _=>none
 | .binOp op t x y _=>match ev C st p x,ev C st p y with
  | .agg xs,.agg ys=>(match op,eqK C.P t with
   | .eql,some ks=>(eqCs ks xs ys).map fun r=>(true,.d (.b r))
   | .neq,some ks=>(eqCs ks xs ys).map fun r=>(true,.d (.b (!r)))
   | _,_=>none)
  | vx,vy=>(bin (tyOf C.P t) op vx vy).map fun (o,v)=>(o,.d v)
 | .unOp .not _ x=>match ev C st p x with | .d (.b v)=>some (true,.d (.b (!v))) | _=>none
 | .unOp .neg _ x=>match ev C st p x with | .d (.i k n)=>some (true,.d (.i k (k.wrap (-n)))) | _=>none
 | .convert src dst x=>match tyOf C.P src,tyOf C.P dst,ev C st p x with
  | .int _,.int k,.d (.i _ n)=>some (true,.d (.i k (k.wrap n)))
  | .sl e,.str,.own n=>(match tyOf C.P e,hlk st.h n with | .int .u8,some (.row e' 1 xs)=>if e'=wk then none else some (isBytes xs,.d (.s ⟨(bytesD xs).toArray⟩)) | _,_=>none)
  | _,_,_=>none
 | .slice t x lo hi none=>match ev C st p x,lo.map (ev C st p),hi.map (ev C st p) with
  | .d x,none,none=>(sliceD (zsOf C t) x 0 none).map fun (o,v)=>(o,.d v)
  | .d x,some (.d (.i _ l)),none=>(sliceD (zsOf C t) x l none).map fun (o,v)=>(o,.d v)
  | .d x,none,some (.d (.i _ h))=>(sliceD (zsOf C t) x 0 (some h)).map fun (o,v)=>(o,.d v)
  | .d x,some (.d (.i _ l)),some (.d (.i _ h))=>(sliceD (zsOf C t) x l (some h)).map fun (o,v)=>(o,.d v)
  | .own n,none,some (.d (.i _ h))=>(match p,zsOf C t,hlk st.h n with
   | _ :: _,some (some _),some (.row _ _ xs)=>some (decide (0≤h∧h≤xs.length),.ov n h.toNat)
   | _,_,_=>none)
  | _,_,_=>none
 | .fieldAddr t x f=>match fieldOff (tyOf C.P t) f with
  | some o=>(match ev C st p x with
   | .ptr b off=>some (true,.ptr b (off+o))
   | .pv cs off=>some (true,.pv cs (off+o))
   | .rp b i off=>some (true,.rp b i (off+o))
   | _=>none)
  | none=>none
 | .field t x f=>if jep C.P t f then (match fieldOff (tyOf C.P t) f,ev C st p x with
  | some o,.agg cs=>(nth? cs o).map (true,·)
  | _,_=>none) else (match fieldAg C.P t f,fieldOff (tyOf C.P t) f,ev C st p x with
  | some sz,some o,.agg cs=>if o+sz≤cs.length then some (true,.agg ((cs.drop o).take sz)) else none
  | _,_,_=>none)
 | .indexAddr t x ix=>match tyOf C.P t with
  | .sl el=>(match (tyOf C.P el).zeros with
   | some zs=>(match ev C st p x,ev C st p ix with
    | .d (.l xs),.d (.i _ n)=>some (decide (0≤n)&&decide (n < xs.length)&&isRow zs (xs.getD n.toNat []),.pv (etaF zs 0 (xs.getD n.toNat [])) 0)
    | .own b,.d (.i _ n)=>(match hlk st.h b with | some (.row _ sz xs)=>if sz=zs.length then some (decide (0≤n)&&decide (n < xs.length),.rp b n.toNat 0) else none | _=>none)
    | _,_=>none)
   | none=>none)
  | _=>none
 | .index t x ix=>match tyOf C.P t,ev C st p x,ev C st p ix with
  | .str,.d (.s s),.d (.i _ n)=>some (decide (0≤n∧n < s.size),.d (.i .u8 (s.get! n.toNat).toNat))
  | _,_,_=>none
 | .extract x i=>match ev C st p x with | .tup vs=>(nth? vs i).map (true,·) | _=>none
 | .call c=>match c.callee with
  | .builtin .len=>(match c.argTypes.toList,c.args.toList with | [t],[x]=>(lenOf st (tyOf C.P t) (ev C st p x)).map fun (n:Nat)=>(true,.d (.i .i64 (n:Int))) | _,_=>none)
  | .builtin .max=>(match c.args.toList with | [x,y]=>(match ev C st p x,ev C st p y with | .d (.i k x),.d (.i _ y)=>some (true,.d (.i k (if y > x then y else x))) | _,_=>none) | _=>none)
  | .builtin .min=>(match c.args.toList with | [x,y]=>(match ev C st p x,ev C st p y with | .d (.i k x),.d (.i _ y)=>some (true,.d (.i k (if y < x then y else x))) | _,_=>none) | _=>none)
  | .value (.func f)=>(match (C.sig f).r with
   | .sc _=>(match zipArgs st (C.sig f).ms (evs C st p c.args.toList) with
    | some xs=>some (scOf (C.F f xs))
    | none=>none)
   | .ep _=>(match jud (C.sig f).ms (evs C st p c.args.toList) with
    | some xs=>some (epOf (C.F f xs))
    | none=>none)
   | _=>none)
  | .value (.tmp t)=>(match gt C st p t with
   | .fb f cs=>jro C st f cs (evs C st p c.args.toList)
   | _=>none)
  | _=>none
 | _=>none

def nm (s j:Nat):Nat:=s * 64+j
def killC (n:Nat):SV→SV
 | .own k=>if k=n then .undef else .own k
 | .rp k i o=>if k=n then .undef else .rp k i o
 | .ov k i=>if k=n then .undef else .ov k i
 | .ptr k o=>if k=n then .undef else .ptr k o
 | .fp f k o=>if k=n then .undef else .fp f k o
 | v=>v
def killCs (n:Nat):List SV→List SV | []=>[] | v :: vs=>killC n v :: killCs n vs
def killA (n:Nat):SV→SV | .agg cs=>.agg (killCs n cs) | v=>killC n v
def killAs (n:Nat):List SV→List SV | []=>[] | v :: vs=>killA n v :: killAs n vs
def killV (n:Nat):SV→SV | .tup vs=>.tup (killAs n vs) | v=>killA n v
def killM (n:Nat):List SV→List SV | []=>[] | v :: vs=>killV n v :: killM n vs
def killL (n:Nat):List (Nat × Path × Bool × SV)→List (Nat × Path × Bool × SV) | []=>[] | (t,p,c,v) :: r=>(t,p,c,killV n v) :: killL n r
def killB (n:Nat):Blk→Blk | .box cs=>.box (killCs n cs) | b=>b
def killH (n:Nat):List (Nat × Blk)→List (Nat × Blk) | []=>[] | (a,b) :: r=>(a,killB n b) :: killH n r
def kill (st:St) (n:Nat):St:=⟨killM n st.m,killL n st.l,killH n st.h⟩
def ownC:SV→List Nat | .own n=>[n] | _=>[]
def jaa:List SV→List Nat | []=>[] | v :: vs=>ownC v++jaa vs
def take1 (st:St):SV→Option (D × St)
 | .d x=>if isSc x then some (x,st) else none
 | .nils=>some (.l [],st)
 | .own n=>match hlk st.h n with | some (.row e _ xs)=>if e=wk then none else some (.l xs,{ kill st n with h:=hdel (killH n st.h) n }) | _=>none
 | _=>none
def takes (st:St):List SV→Option (List D × St)
 | []=>some ([],st)
 | v :: vs=>match take1 st v with | some (x,st1)=>(match takes st1 vs with | some (xs,st2)=>some (x :: xs,st2) | none=>none) | none=>none
def takeK (st:St):List (Option (Nat × Nat))→List SV→Option (List D × St)
 | [],[]=>some ([],st)
 | none :: ks,.d x :: vs=>match takeK st ks vs with | some (xs,st2)=>some (x :: xs,st2) | none=>none
 | none :: ks,.bx _ _ x :: vs=>match takeK st ks vs with | some (xs,st2)=>some (x :: xs,st2) | none=>none
 | some (e,sz) :: ks,v :: vs=>(match v with
  | .nils=>(match takeK st ks vs with | some (xs,st2)=>some (.l [] :: xs,st2) | none=>none)
  | .own n=>(match hlk st.h n with
   | some (.row e' sz' xs)=>if e'=e∧sz'=sz then (match takeK { kill st n with h:=hdel (killH n st.h) n } ks vs with | some (ys,st2)=>some (.l xs :: ys,st2) | none=>none) else none
   | _=>none)
  | _=>none)
 | _,_=>none
def given (st:St):List Mode→List SV→Option (List (Option DV) × St)
 | [],[]=>some ([],st)
 | .own ks :: ms,v :: vs=>(match takeK st ks (cellsOf v) with
  | some (xs,st1)=>(match given st1 ms vs with
   | some (r,st2)=>(match v,xs with | .agg _,xs=>some (some (.agg xs) :: r,st2) | _,[x]=>some (some (.one x) :: r,st2) | _,_=>none)
   | none=>none)
  | none=>none)
 | .ptr ks :: ms,.ptr n off :: vs=>(match hlk st.h n with
  | some (.box cs)=>if off+ks.length≤cs.length then (match takeK { st with h:=hdel st.h n } ks ((cs.drop off).take ks.length) with
   | some (xs,st1)=>(match given st1 ms vs with | some (r,st2)=>some (some (.ptr xs) :: r,st2) | none=>none)
   | none=>none) else none
  | _=>none)
 | _ :: ms,_ :: vs=>match given st ms vs with | some (r,st2)=>some (none :: r,st2) | none=>none
 | _,_=>none
def lent (st:St):List Mode→List SV→List (Option DV)→Option (List DV)
 | [],[],[]=>some []
 | _ :: ms,_ :: vs,some x :: r=>match lent st ms vs r with | some xs=>some (x :: xs) | none=>none
 | m :: ms,v :: vs,none :: r=>match argOf st m v with | some x=>(match lent st ms vs r with | some xs=>some (x :: xs) | none=>none) | none=>none
 | _,_,_=>none
def nmsF (s:Nat):Nat→Nat→List Nat
 | _,0=>[]
 | j,m+1=>nm s j :: nmsF s (j+1) m
def backN (n:Nat):Nat→List SV→List Nat
 | _,[]=>[]
 | j,.own k :: vs=>k :: backN n (j+1) vs
 | j,_ :: vs=>nm n (j+1) :: backN n (j+1) vs
def layK:List Nat→List (Option (Nat × Nat))→List D→Option (List SV × List (Nat × Blk))
 | [],[],[]=>some ([],[])
 | _ :: ns,none :: ks,x :: xs=>(match layK ns ks xs with | some (a,b)=>some (.d x :: a,b) | none=>none)
 | n :: ns,some (e,sz) :: ks,.l ys :: xs=>(match layK ns ks xs with | some (a,b)=>some (.own n :: a,(n,.row e sz ys) :: b) | none=>none)
 | _,_,_=>none
def adds (st:St):List (Nat × Blk)→Option St
 | []=>some st
 | (n,b) :: r=>match hlk st.h n with | some _=>none | none=>adds { st with h:=st.h++[(n,b)] } r
def keepC (ns:List Nat):SV→SV
 | .own k=>if isIn ns k then .own k else .undef
 | .rp k i o=>if isIn ns k then .rp k i o else .undef
 | .ov k i=>if isIn ns k then .ov k i else .undef
 | .ptr k o=>if isIn ns k then .ptr k o else .undef
 | .fp f k o=>if isIn ns k then .fp f k o else .undef
 | v=>v
def keepCs (ns:List Nat):List SV→List SV | []=>[] | v :: vs=>keepC ns v :: keepCs ns vs
def names:List (Nat × Blk)→List Nat | []=>[] | (n,_) :: r=>n :: names r
def scAll:List (Option (Nat × Nat))→List D→Bool
 | none :: ks,x :: xs=>isSc x&&scAll ks xs
 | some _ :: ks,_ :: xs=>scAll ks xs
 | _,_=>true
def freeN (sus:List Nat):List (Nat × Blk)→Bool
 | []=>true
 | (n,_) :: r=>if isIn sus n then false else freeN sus r
def lentN:List Mode→List SV→List Nat
 | .ptr _ :: ms,.ptr n _ :: vs=>n :: lentN ms vs
 | _ :: ms,_ :: vs=>lentN ms vs
 | _,_=>[]
def pureD:SV→Bool | .d _=>true | .nils=>true | _=>false
def pureDs:List SV→Bool | []=>true | v :: vs=>pureD v&&pureDs vs
def pureV:SV→Bool | .agg cs=>pureDs cs | v=>pureD v
def pureA:List Mode→List SV→Bool
 | .bor :: ms,v :: vs=>pureV v&&pureA ms vs
 | .ptr _ :: ms,_ :: vs=>pureA ms vs
 | .own _ :: ms,_ :: vs=>pureA ms vs
 | [],[]=>true
 | _,_=>false
def layP (pr:Bool) (ns:List Nat) (ks:List (Option (Nat × Nat))) (xs:List D):Option (List SV × List (Nat × Blk)):=if scAll ks xs||pr then layK ns ks xs else none
def bxC:SV→Bool | .d _=>true | .bx _ _ _=>true | _=>false
def oldOk:List (Option (Nat × Nat))→List D→List SV→Bool
 | none :: ks,x :: xs,c :: cs=>(isSc x||bxC c)&&oldOk ks xs cs
 | some _ :: ks,_ :: xs,_ :: cs=>oldOk ks xs cs
 | _,_,_=>true
def cleanK:List (Option (Nat × Nat))→List D→List D
 | none :: ks,x :: xs=>(if isSc x then x else .b false) :: cleanK ks xs
 | some _ :: ks,x :: xs=>x :: cleanK ks xs
 | _,xs=>xs
def mixK:List (Option (Nat × Nat))→List D→List SV→List SV→List SV
 | none :: ks,x :: xs,w :: ws,c :: cs=>(if isSc x then w else c) :: mixK ks xs ws cs
 | some _ :: ks,_ :: xs,w :: ws,_ :: cs=>w :: mixK ks xs ws cs
 | _,_,ws,_=>ws
def backs (h0:List (Nat × Blk)) (ns sus:List Nat) (st:St):List Mode→List SV→List (List D)→Option St
 | .ptr ks :: ms,.ptr n off :: vs,o :: os=>(match hlk h0 n with
  | some (.box cs)=>if off+ks.length≤cs.length∧oldOk ks o ((cs.drop off).take ks.length)=true then (match layK (backN n off ((cs.drop off).take ks.length)) ks (cleanK ks o) with
   | some (ws,new)=>if freeN sus new then (match adds st (new++[(n,.box (setRange (keepCs ns cs) off (mixK ks o ws ((cs.drop off).take ks.length))))]) with | some st1=>backs h0 ns sus st1 ms vs os | none=>none) else none
   | none=>none) else none
  | _=>none)
 | .ptr _ :: _,_,_=>none
 | .io _ :: _,_,_=>none
 | _ :: ms,_ :: vs,os=>backs h0 ns sus st ms vs os
 | [],[],[]=>some st
 | _,_,_=>none
def thaws (s:Nat):Nat→List (List (Option (Nat × Nat)))→List DV→Option (List SV × List (Nat × Blk))
 | _,[],[]=>some ([],[])
 | j,ks :: kss,.one x :: r=>(match layK (nmsF s j ks.length) ks [x],thaws s (j+ks.length) kss r with | some ([v],b),some (vs,b')=>some (v :: vs,b++b') | _,_=>none)
 | j,ks :: kss,.agg xs :: r=>(match layK (nmsF s j ks.length) ks xs,thaws s (j+ks.length) kss r with | some (a,b),some (vs,b')=>some (.agg a :: vs,b++b') | _,_=>none)
 | _,_,_=>none
def takeI (st:St):List (Option (Nat × Nat))→List SV→Option (List D)
 | [],[]=>some []
 | none :: ks,.d x :: vs=>(match takeI st ks vs with | some xs=>some (x :: xs) | none=>none)
 | some (e,sz) :: ks,.own n :: vs=>(match hlk st.h n with
  | some (.row _ sz' xs)=>if e=wk∧sz'=sz then (match takeI st ks vs with | some ys=>some (.l xs :: ys) | none=>none) else none
  | _=>none)
 | _,_=>none
def jdj (st stb:St):Mode→SV→Option DV
 | .io ks,.agg cs=>(match takeI st ks cs with | some xs=>some (.agg xs) | none=>none)
 | .io ks,v=>(match takeI st ks [v] with | some [x]=>some (.one x) | _=>none)
 | m,v=>argOf stb m v
def jhc (st stb:St):List Mode→List SV→Option (List DV)
 | [],[]=>some []
 | m :: ms,v :: vs=>(match jdj st stb m v,jhc st stb ms vs with | some x,some xs=>some (x :: xs) | _,_=>none)
 | _,_=>none
def ioNs:List Mode→List SV→List Nat
 | .io _ :: ms,v :: vs=>jaa (cellsOf v)++ioNs ms vs
 | _ :: ms,_ :: vs=>ioNs ms vs
 | _,_=>[]
def jyk:List Nat→Bool | []=>true | n :: ns=>!isIn ns n&&jyk ns
def jnc (h:List (Nat × Blk)):List Nat→List (Nat × Blk) | []=>h | n :: ns=>jnc (hdel h n) ns
def jeb (h:List (Nat × Blk)):List (Option (Nat × Nat))→List SV→List D→Option (List (Nat × Blk))
 | [],[],[]=>some h
 | some (e,sz) :: ks,.own n :: vs,.l ys :: os=>(match hlk h n with
  | some (.row e' sz' _)=>if e=wk∧sz'=sz then jeb (hset h n (.row e' sz ys)) ks vs os else none
  | _=>none)
 | none :: ks,.d _ :: vs,_ :: os=>jeb h ks vs os
 | _,_,_=>none
def jra (h:List (Nat × Blk)):List Mode→List SV→List (List D)→Option (List (Nat × Blk))
 | .io ks :: ms,v :: vs,o :: os=>(match jeb h ks (cellsOf v) o with | some h1=>jra h1 ms vs os | none=>none)
 | .io _ :: _,_,_=>none
 | _ :: ms,_ :: vs,os=>jra h ms vs os
 | [],[],[]=>some h
 | _,_,_=>none
def jzn:List Mode→Bool | []=>false | .io _ :: _=>true | _ :: ms=>jzn ms
def jia:List Mode→Bool | []=>true | .bor :: ms=>jia ms | .io _ :: ms=>jia ms | _ :: _=>false
def jdf (C:Ctx) (st:St) (f:Nat) (args:List SV):Option (Bool × SV × St) :=
 if jyk (ioNs (C.sig f).ms args)&&jia (C.sig f).ms then
  (match jhc st { st with h:=jnc st.h (ioNs (C.sig f).ms args) } (C.sig f).ms args with
  | some xs=>(match C.F f xs with
   | (ok,rs,outs)=>(match jra st.h (C.sig f).ms args outs,(C.sig f).r with
    | some h,.sc _=>some (ok,single (svsOf rs),{ st with h:=h })
    | _,_=>none))
  | none=>none) else none
def jvb:List DV→Option Bool
 | [.one (.b x)]=>some x
 | _ :: r=>jvb r
 | []=>none
def jvo:List SV→Bool
 | [.d (.b false)]=>true
 | _ :: r=>jvo r
 | []=>false
def lastN (zs:List DV):Bool:=match jvb zs with | some false=>true | _=>false
def jbd:Nat→List SV | 0=>[] | n+1=>.undef :: jbd n
def unZ:List DV→Bool→List SV
 | [_],b=>[.d (.b b)]
 | .agg a :: r,b=>.agg (jbd a.length) :: unZ r b
 | _ :: r,b=>.undef :: unZ r b
 | [],_=>[]
def shD:List DV→List DV→Bool
 | [],[]=>true
 | .agg a :: r,.agg b :: q=>decide (a.length=b.length)&&shD r q
 | .one _ :: r,.one _ :: q=>shD r q
 | _,_=>false
def shS:List DV→List SV→Bool
 | [],[]=>true
 | .agg a :: r,.agg c :: q=>decide (a.length=c.length)&&shS r q
 | .one _ :: r,_ :: q=>shS r q
 | _,_=>false
def callFn (C:Ctx) (st:St) (s f:Nat) (args:List SV):Option (Bool × SV × St) :=
 if jzn (C.sig f).ms then jdf C st f args else match given st (C.sig f).ms args with
 | some (r,st1)=>(match lent st1 (C.sig f).ms args r with
  | some xs=>(match C.F f xs with
   | (ok,rs,outs)=>(match backs st.h (names st1.h) (lentN (C.sig f).ms args) st1 (C.sig f).ms args outs with
    | some st2=>(match (C.sig f).r,rs with
     | .sc _,rs=>some (ok,single (svsOf rs),st2)
     | .fresh kss,rs=>(match thaws s 0 kss rs with | some (vs,new)=>(match adds st2 new with | some st3=>some (ok,single vs,st3) | none=>none) | none=>none)
     | .freshT zs kss,rs=>(match jvb rs with
      | some b=>if isIn C.keep (s+1000000) then some (ok,single (unZ zs b),st2)
       else (match thaws s 0 kss rs with | some (vs,new)=>(match adds st2 new with | some st3=>some (ok&&b,single vs,st3) | none=>none) | none=>none)
      | none=>none)
     | .nptr ks,[.ptr xs]=>(match layP (pureA (C.sig f).ms args) (nmsF s 1 ks.length) ks xs with | some (cs,new)=>(match adds st2 (new++[(nm s 0,.box cs)]) with | some st3=>some (ok,.ptr (nm s 0) 0,st3) | none=>none) | none=>none)
     | _,_=>none)
    | none=>none))
  | none=>none)
 | none=>none

def allSc:List D→Bool | []=>true | x :: xs=>isSc x&&allSc xs
def flatR (sz:Nat):List (List D)→Bool | []=>true | r :: rs=>decide (r.length=sz)&&allSc r&&flatR sz rs
def source (zs:List D) (st:St):SV→Option (Bool × List (List D) × St)
 | .own n=>match hlk st.h n with
  | some (.row e sz xs)=>if sz=zs.length∧e≠wk then (if flatZ zs then some (flatR sz xs,xs,st) else some (true,xs,{ kill st n with h:=hdel (killH n st.h) n })) else none
  | _=>none
 | .d (.l xs)=>if flatZ zs then some (flatR zs.length xs,xs,st) else none
 | .nils=>some (true,[],st)
 | _=>none
def rowsOf (C:Ctx) (sz:Nat):List (Nat × Operand)→Nat→St→Option (List (List D) × St)
 | [],_,st=>some ([],st)
 | (i,x) :: r,k,st=>if i=k then (match takes st (cellsOf (ev C st [] x)) with
  | some (c,st1)=>if c.length=sz then (match rowsOf C sz r (k+1) st1 with | some (cs,st2)=>some (c :: cs,st2) | none=>none) else none
  | none=>none) else none
def fits (P:Program) (t:TypeId) (v:SV):Bool:=okSV v&&okTy (tyOf P t)&&decide ((cellsOf v).length=(tyOf P t).size)
def small (P:Program) (t:TypeId):Bool:=match P.info? t with | some i=>decide (i.bytes≤2048) | none=>false
def store (C:Ctx) (st:St) (t:TypeId) (p v:SV):Option (Bool × St) :=
 if fits C.P t v then (match p with
  | .ptr n off=>(match hlk st.h n with
   | some (.box cs)=>if off+(cellsOf v).length≤cs.length then some (true,{ st with h:=hset st.h n (.box (setRange cs off (cellsOf v))) }) else none
   | _=>none)
  | .rp n i off=>(match takes st (cellsOf v) with
   | some (xs,st1)=>(match hlk st1.h n with
    | some (.row e sz rs)=>some (decide (off+xs.length≤sz∧i < rs.length),{ st1 with h:=hset st1.h n (.row e sz (rs.modify i fun r=>r.take off++xs++r.drop (off+xs.length))) })
    | _=>none)
   | none=>none)
  | _=>none) else none
def elz (C:Ctx) (el:TypeId):Option (List D):=match (tyOf C.P el).zeros with | some (z :: zs)=>some (z :: zs) | _=>none
def cut (C:Ctx) (st:St) (el:TypeId) (n:Nat) (ok:List (List D)→Bool) (f:List (List D)→List (List D)):Option (Bool × SV × St) :=
 match (tyOf C.P el).zeros,hlk st.h n with
 | some zs,some (.row e sz xs)=>if sz=zs.length∧e≠wk then some (ok xs,.own n,{ kill st n with h:=hset (killH n st.h) n (.row e sz (f xs)) }) else none
 | _,_=>none
def heavy (C:Ctx) (st:St) (s:Nat) (op:Op):Option (Bool × SV × St) :=
 match op with
 | .alloc t=>match (tyOf C.P t).zeros with | some zs=>(adds st [(nm s 0,.box (svZs zs))]).map fun st1=>(true,.ptr (nm s 0) 0,st1) | none=>none
 | .box t x=>if fits C.P t (ev C st [] x) then (adds st [(nm s 0,.box (cellsOf (ev C st [] x)))]).map fun st1=>(true,.ptr (nm s 0) 0,st1) else none
 | .buildSlice t n parts=>match tyOf C.P t with
  | .sl el=>(match elz C el with
   | some zs=>(match rowsOf C zs.length parts.toList 0 st with
    | some (rows,st1)=>if rows.length=n∧n * zs.length≤16777216 then (adds st1 [(nm s 0,.row el zs.length rows)]).map fun st2=>(true,.own (nm s 0),st2) else none
    | none=>none)
   | none=>none)
  | _=>none
 | .makeSlice t n m=>match tyOf C.P t,ev C st [] n,ev C st [] m with
  | .sl el,.d (.i _ k),.d (.i _ k')=>if small C.P el then (match elz C el with
   | some zs=>(adds st [(nm s 0,.row el zs.length (List.replicate k.toNat zs))]).map fun st1=>(decide (0≤k∧k≤lim∧k'=k),.own (nm s 0),st1)
   | none=>none) else none
  | _,_,_=>none
 | .store t a x=>(store C st t (ev C st [] a) (ev C st [] x)).map fun q=>(q.1,.undef,q.2)
 | .slice t x lo hi mx=>match tyOf C.P t,ev C st [] x,lo.map (ev C st []),hi.map (ev C st []),mx.map (ev C st []) with
  | .sl el,.own n,none,some (.d (.i _ k)),none=>cut C st el n (fun xs=>decide (0≤k∧k≤xs.length)) (·.take k.toNat)
  | .sl el,.own n,none,some (.d (.i _ k)),some (.d (.i _ k'))=>cut C st el n (fun xs=>decide (0≤k∧k≤xs.length∧k'=k)) (·.take k.toNat)
  | .sl el,.own n,some (.d (.i _ k)),none,none=>cut C st el n (fun xs=>decide (0≤k∧k≤xs.length)) (·.drop k.toNat)
  | _,_,_,_,_=>none
 | .call c=>match c.callee with
  | .builtin .append=>(match c.argTypes.toList,evs C st [] c.args.toList with
   | [t,t'],[x,y]=>(match tyOf C.P t,tyOf C.P t' with
    | .sl el,.sl _=>if small C.P el then (match elz C el with
     | some zs=>(match source zs st y with
      | some (ok,ys,st1)=>(match x with
       | .own n=>(match hlk st1.h n with
        | some (.row e sz xs)=>if (e=el∧sz=zs.length)∧e≠wk then some (ok&&decide (xs.length+ys.length≤lim),.own n,{ kill st1 n with h:=hset (killH n st1.h) n (.row e sz (xs++ys)) }) else none
        | _=>none)
       | .nils=>(adds st1 [(nm s 0,.row el zs.length ys)]).map fun st2=>(ok&&decide (ys.length≤lim),.own (nm s 0),st2)
       | _=>none)
      | none=>none)
     | none=>none) else none
    | _,_=>none)
   | _,_=>none)
  | .value (.func f)=>callFn C st s f (evs C st [] c.args.toList)
  | _=>none
 | _=>none

def strip:Path→Path→Path
 | (a,x) :: p,(b,y) :: q=>if a=b then (if x=y then strip p q else (b,y) :: q) else (b,y) :: q
 | _,q=>q
def atL (p:Path):List (Nat × Path × Bool × SV)→List (Nat × Path × Bool × SV)
 | []=>[]
 | (t,q,c,v) :: r=>(t,strip p q,(match strip p q with | []=>true | _=>c),v) :: atL p r
def atP (p:Path) (st:St):St:={ st with l:=atL p st.l }
def boolOf:SV→Bool | .d (.b x)=>x | _=>false
def okP:Path→Bool→Bool→Bool | [],_,ok=>ok | _,c,ok=>ok||!c
def gd:Bool→Bool→Bool | true,x=>x | false,x=>!x
def guardOf (ops:Array Oper) (st:St):Option (Nat × Bool)→Option (Path × Bool)
 | none=>some ([],true)
 | some (j,b)=>match ops[j]? with
  | some o=>(match o.dst with
   | some t=>(match lk st.l t with | some (p,c,.d (.b x))=>some (p++[(t,b)],c&&gd b x) | _=>none)
   | none=>none)
  | none=>none
def runOps (C:Ctx) (ops:Array Oper):List Oper→St→Option St
 | [],st=>some { st with l:=[] }
 | o :: os,st=>match guardOf ops st o.guard with
  | some (p,c)=>(match light C st p o.op with
   | some (ok,v)=>if okP p c ok then runOps C ops os (pt C st p c o.dst v) else none
   | none=>(match p with
    | []=>(match heavy C st (o.dst.getD 0) o.op with
     | some (ok,v,st1)=>if ok then runOps C ops os (pt C st1 [] true o.dst v) else none
     | none=>none)
    | q :: p=>if c then (match heavy C (atP (q :: p) st) (o.dst.getD 0) o.op with
     | some (ok,v,st1)=>if ok then runOps C ops os (pt C st1 [] true o.dst v) else none
     | none=>none) else runOps C ops os (pt C st (q :: p) false o.dst .undef)))
  | none=>none

def jqb (C:Ctx) (ops:Array Oper):List Oper→St→Option St
 | [],st=>some st
 | o :: os,st=>match guardOf ops st o.guard with
  | some (p,c)=>(match light C st p o.op with
   | some (ok,v)=>if okP p c ok then jqb C ops os (pt C st p c o.dst v) else none
   | none=>(match p with
    | []=>(match heavy C st (o.dst.getD 0) o.op with
     | some (ok,v,st1)=>if ok then jqb C ops os (pt C st1 [] true o.dst v) else none
     | none=>none)
    | q :: p=>if c then (match heavy C (atP (q :: p) st) (o.dst.getD 0) o.op with
     | some (ok,v,st1)=>if ok then jqb C ops os (pt C st1 [] true o.dst v) else none
     | none=>none) else jqb C ops os (pt C st (q :: p) false o.dst .undef)))
  | none=>none
def notT (s:Nat):Operand→Bool | .tmp t=>decide (t≠s) | _=>true
def jvk (sig:Nat→Sig) (o1 o2 o3:Oper):Bool :=
 match o1.op,o1.dst,o1.guard,o2.op,o2.dst,o2.guard,o3.op,o3.guard with
 | .load _ _,some s,none,.move y,some s2,none,.call c,none=>(match c.callee,c.args.toList with
  | .value (.func f),[.tmp a,.tmp b]=>decide (a=s)&&decide (b=s2)&&notT s y&&jzn (sig f).ms
  | _,_=>false)
 | _,_,_,_,_,_,_,_=>false
def jki (sig:Nat→Sig):List Oper→Option (List Oper × Oper × Oper × Oper × List Oper)
 | o1 :: o2 :: o3 :: os=>if jvk sig o1 o2 o3 then some ([],o1,o2,o3,os) else match jki sig (o2 :: o3 :: os) with | some (p,r)=>some (o1 :: p,r) | none=>none
 | _=>none
def isRp:SV→Bool | .rp _ _ _=>true | _=>false
def jys (C:Ctx) (st:St) (o1:Oper):Bool:=match o1.op with | .load _ x=>isRp (ev C st [] x) | _=>false
def fstSz (sz:Nat) (xs:List (List D)):Bool:=decide ((xs.getD 0 (List.replicate sz (.b false))).length=sz)
def jyo (C:Ctx) (st:St) (o1 o2 o3:Oper):Option (Bool × St) :=
 match o1.op,o2.op,o3.op with
 | .load t x,.move y,.call c=>(match tyOf C.P t,ev C st [] x,ev C st [] y,c.callee with
  | .sl _,.rp n i off,.d dk,.value (.func f)=>(match hlk st.h n,(C.sig f).ms,(C.sig f).r with
   | some (.row e sz xs),[.io [some (e1,sz1)],.bor],.sc _=>(match C.F f [.one (.l (asL (nthD (xs.getD i []) off))),.one dk] with
    | (ok,rs,[[.l ys]])=>some (ok&&(decide (e1=wk)&&decide (0 < sz1)&&decide (off+1≤(xs.getD i []).length)&&isF [.l []] off (xs.getD i [])&&fstSz sz1 (asL (nthD (xs.getD i []) off))),
      pt C (pt C (pt C { st with h:=hset st.h n (.row e sz (xs.modify i fun r=>r.take off++[.l ys]++r.drop (off+1))) } [] true o1.dst .undef) [] true o2.dst (.d dk)) [] true o3.dst (single (svsOf rs)))
    | _=>none)
   | _,_,_=>none)
  | _,_,_,_=>none)
 | _,_,_=>none
def jvg (C:Ctx) (ops:Array Oper) (st:St):Option St :=
 match jki C.sig ops.toList with
 | none=>runOps C ops ops.toList st
 | some (pre,o1,o2,o3,post)=>(jqb C ops pre st).bind fun st1=>if jys C st1 o1 then (match jyo C st1 o1 o2 o3 with
  | some (ok,st2)=>if ok then runOps C ops post st2 else none
  | none=>none) else runOps C ops (o1 :: o2 :: o3 :: post) st1

def holdsV (C:Ctx) (st:St) (t:Nat) (p:Path) (c:Bool):Option SV :=
 if isIn C.keep t then (match lk st.l t with
  | none=>(match p,lkm C.keep st.m t with | [],x=>some x | _,.undef=>some .undef | _,_=>none)
  | some _=>none)
 else match lk st.l t with
  | some (q,c',x)=>if q=p∧c'=c then some x else none
  | none=>none
def again (C:Ctx) (ops:Array Oper) (st:St) (j:Nat):Prop :=
 match ops[j]? with
 | some o=>(match guardOf ops st o.guard with
  | some (p,c)=>(match o.dst with
   | some t=>(match holdsV C st t p c with
    | some x=>c=false∨∃v,light C st p o.op=some (true,v)∧(x=.undef∨v=x)
    | none=>False)
   | none=>c=false∨∃v,light C st p o.op=some (true,v))
  | none=>False)
 | none=>False
def nmC:SV→List Nat | .own n=>[n] | .ptr n _=>[n] | .rp n _ _=>[n] | .ov n _=>[n] | .fp _ n _=>[n] | _=>[]
def nmCs:List SV→List Nat | []=>[] | v :: vs=>nmC v++nmCs vs
def nmA:SV→List Nat | .agg cs=>nmCs cs | v=>nmC v
def nmAs:List SV→List Nat | []=>[] | v :: vs=>nmA v++nmAs vs
def nmV:SV→List Nat | .tup vs=>nmAs vs | v=>nmA v
def jah (C:Ctx) (st:St):List (Nat × Operand)→List Nat
 | []=>[]
 | (_,x) :: r=>jaa (cellsOf (ev C st [] x))++jah C st r
def jua (st:St):List Mode→List SV→List Nat
 | .io _ :: ms,v :: vs=>jaa (cellsOf v)++jua st ms vs
 | .own _ :: ms,v :: vs=>jaa (cellsOf v)++jua st ms vs
 | .ptr _ :: ms,.ptr n _ :: vs=>(match hlk st.h n with | some (.box cs)=>jaa cs | _=>[])++jua st ms vs
 | _ :: ms,_ :: vs=>jua st ms vs
 | _,_=>[]
def boxesCall:List Mode→List SV→List Nat
 | .ptr _ :: ms,.ptr n _ :: vs=>n :: boxesCall ms vs
 | _ :: ms,_ :: vs=>boxesCall ms vs
 | _,_=>[]
def hits (C:Ctx) (st:St):Op→List Nat
 | .buildSlice _ _ parts=>jah C st parts.toList
 | .store _ a x=>(match ev C st [] a with | .ptr _ _=>[] | v=>nmV v++jaa (cellsOf (ev C st [] x)))
 | .slice _ x _ _ _=>jaa (cellsOf (ev C st [] x))
 | .call c=>(match c.callee with
  | .builtin .append=>jaa (evs C st [] c.args.toList)
  | .value (.func f)=>jua st (C.sig f).ms (evs C st [] c.args.toList)
  | _=>[])
 | _=>[]
def hitsB (C:Ctx) (st:St):Op→List Nat
 | .store _ a _=>(match ev C st [] a with | .ptr n _=>[n] | _=>[])
 | .call c=>(match c.callee with
  | .value (.func f)=>boxesCall (C.sig f).ms (evs C st [] c.args.toList)
  | _=>[])
 | _=>[]
def jtg (H:Ctx→St→Op→List Nat) (C:Ctx) (ops:Array Oper) (st:St) (o:Oper):List Nat:=match guardOf ops st o.guard with
 | some (q :: p,_)=>H C (atP (q :: p) st) o.op
 | _=>match light C st [] o.op with | some _=>[] | none=>H C st o.op
def zipL:List (Nat × Path × Bool × SV)→List (Nat × Path × Bool × SV)→List (Nat × Path × Bool × SV)
 | (t,q,c,_) :: r,(_,_,_,v) :: r2=>(t,q,c,v) :: zipL r r2
 | _,_=>[]
def stepD (C:Ctx) (ops:Array Oper) (o:Oper) (k:Nat) (st:St):Option St :=
 match guardOf ops st o.guard with
 | some (p,c)=>(match k with
  | 0=>(match light C st p o.op with
   | some (ok,v)=>if okP p c ok then some (pt C st p c o.dst v) else none
   | none=>(match p with | []=>none | q :: p=>if c then none else some (pt C st (q :: p) false o.dst .undef)))
  | _=>(match p with
   | []=>(match light C st [] o.op with
    | some (ok,v)=>if ok then some (pt C st [] true o.dst v) else none
    | none=>(match heavy C st (o.dst.getD 0) o.op with
     | some (ok,v,st1)=>if ok then some (pt C st1 [] true o.dst v) else none
     | none=>none))
   | q :: p=>if c then (match heavy C (atP (q :: p) st) (o.dst.getD 0) o.op with
    | some (ok,v,st1)=>if ok then some (pt C ⟨st1.m,zipL st.l st1.l,st1.h⟩ (q :: p) true o.dst v) else none
    | none=>none) else some (pt C st (q :: p) false o.dst .undef)))
 | none=>none
def jaj (hs:List Nat):List Nat→Bool | []=>true | n :: ns=>if isIn hs n then false else jaj hs ns
def raw (C:Ctx) (st:St) (t:Nat):SV:=match lk st.l t with | some (_,_,v)=>v | none=>lkm C.keep st.m t
def inH (h:List (Nat × Blk)):List Nat→Bool | []=>true | n :: ns=>(hlk h n).isSome&&inH h ns
def jwn (hs:List Nat) (h:List (Nat × Blk)):List Nat→Bool
 | []=>true
 | n :: ns=>(match hlk h n with | some (.box cs)=>jaj hs (nmCs cs)&&inH h (nmCs cs) | some _=>true | none=>false)&&jwn hs h ns
def calm (C:Ctx) (st:St) (hs:List Nat) (t:Nat):Bool:=jaj hs (nmV (raw C st t))&&jwn hs st.h (nmV (raw C st t))
def jur (C:Ctx) (st:St) (hs:List Nat):List Nat→Bool | []=>true | t :: ts=>calm C st hs t&&jur C st hs ts
def jgo (C:Ctx) (st:St) (hs:List Nat) (t:Nat):Bool:=jaj hs (nmV (raw C st t))
def jjo (C:Ctx) (st:St) (hs:List Nat):List Nat→Bool | []=>true | t :: ts=>jgo C st hs t&&jjo C st hs ts
def dry:Op→Bool | .move _ | .assign _ | .nilCheck _ | .fieldAddr _ _ _ | .field _ _ _ | .extract _ _=>true | _=>false
def jrn (C:Ctx) (ops:Array Oper) (st:St) (ks bs:List Nat) (j:Nat):Bool :=
 match ops[j]? with
 | some o=>(if dry o.op then jjo C st ks (o.looksAt ops) else jur C st (ks++bs) (o.looksAt ops))&&(match o.dst with | some t=>jgo C st ks t | none=>true)
 | none=>false
def jjf (C:Ctx) (ops:Array Oper) (st:St) (ks bs:List Nat):List Nat→Bool | []=>true | j :: js=>jrn C ops st ks bs j&&jjf C ops st ks bs js
def runDraw (C:Ctx) (ops:Array Oper):List (Nat × Nat × List Nat)→St→Option St
 | [],st=>some { st with l:=[] }
 | (i,k,js) :: r,st=>match ops[i]? with
  | some o=>if jjf C ops st (jtg hits C ops st o) (jtg hitsB C ops st o) js then (match stepD C ops o k st with
   | some st1=>runDraw C ops r st1
   | none=>none) else none
  | none=>none
def lkO {α:Type}:List (Nat × List α)→Nat→List α
 | [],_=>[]
 | (a,v) :: r,n=>if a=n then v else lkO r n

inductive Ex where | normal | exit (id:Nat) | ret

def hasN (ns:List Nat) (n:Nat):Bool:=isIn ns n
def keepV (ns:List Nat):SV→SV | .agg cs=>.agg (keepCs ns cs) | .tup _=>.undef | v=>keepC ns v
def keepM (ns:List Nat):List SV→List SV | []=>[] | v :: vs=>keepV ns v :: keepM ns vs
def keepB (ns:List Nat):Blk→Blk | .box cs=>.box (keepCs ns cs) | b=>b
def keepH (ns:List Nat) (h:List (Nat × Blk)):List Nat→List (Nat × Blk)
 | []=>[]
 | n :: r=>match hlk h n with | some b=>(n,keepB ns b) :: keepH ns h r | none=>keepH ns h r
def trim (ns:List Nat) (st:St):St:=⟨keepM ns st.m,[],keepH ns st.h ns⟩
def renC (k k':Nat):SV→SV
 | .own n=>.own (if n=k then k' else n)
 | .rp n i o=>.rp (if n=k then k' else n) i o
 | .ov n i=>.ov (if n=k then k' else n) i
 | .ptr n o=>.ptr (if n=k then k' else n) o
 | .fp f n o=>.fp f (if n=k then k' else n) o
 | v=>v
def jxe (k k':Nat):List SV→List SV | []=>[] | v :: vs=>renC k k' v :: jxe k k' vs
def renA (k k':Nat):SV→SV | .agg cs=>.agg (jxe k k' cs) | v=>renC k k' v
def jmh (k k':Nat):List SV→List SV | []=>[] | v :: vs=>renA k k' v :: jmh k k' vs
def renV (k k':Nat):SV→SV | .tup vs=>.tup (jmh k k' vs) | v=>renA k k' v
def renM (k k':Nat):List SV→List SV | []=>[] | v :: vs=>renV k k' v :: renM k k' vs
def renB (k k':Nat):Blk→Blk | .box cs=>.box (jxe k k' cs) | b=>b
def renH (k k':Nat):List (Nat × Blk)→List (Nat × Blk) | []=>[] | (n,b) :: r=>(if n=k then k' else n,renB k k' b) :: renH k k' r
def ren (k k':Nat) (st:St):St:=⟨renM k k' st.m,st.l,renH k k' st.h⟩
def jfe (n:Nat):Nat→List SV→List Nat→St→St × List Nat
 | _,[],sn,st=>(st,sn)
 | j,.own k :: cs,sn,st=>if isIn sn k then jfe n (j+1) cs sn st else if k=nm n (j+1) then jfe n (j+1) cs (k :: sn) st else
  match hlk st.h k,hlk st.h (nm n (j+1)) with
  | some (.row _ _ _),none=>jfe n (j+1) cs (nm n (j+1) :: sn) (ren k (nm n (j+1)) st)
  | _,_=>jfe n (j+1) cs (k :: sn) st
 | j,_ :: cs,sn,st=>jfe n (j+1) cs sn st
def jll:List (Nat × Blk)→List Nat→St→St
 | [],_,st=>st
 | (n,.box cs) :: r,sn,st=>match jfe n 0 cs sn st with | (st1,sn1)=>jll r sn1 st1
 | _ :: r,sn,st=>jll r sn st
def jww (st:St):St:=jll st.h [] st
def eokB (P:Program) (e sz:Nat):Bool:=(decide (e=wk)||(match P.info? e with | some i=>decide (i.size=sz) | none=>false))&&decide (0 < sz)
def jtr (C:Ctx) (n j e sz:Nat) (st:St):St :=
 match hlk st.h n,hlk st.h (nm n (j+1)) with
 | some (.box cs),none=>(match nth? cs j with
  | some .nils=>if eokB C.P e sz then { st with h:=hset (st.h++[(nm n (j+1),.row e sz [])]) n (.box (setRange cs j [.own (nm n (j+1))])) } else st
  | _=>st)
 | _,_=>st
def jrr (C:Ctx) (t e sz:Nat) (st:St):St :=
 match lkm C.keep st.m t,hlk st.h (nm t 60) with
 | .nils,none=>if isIn C.keep t&&eokB C.P e sz then { st with m:=stm C.keep st.m t (.own (nm t 60)),h:=st.h++[(nm t 60,.row e sz [])] } else st
 | _,_=>st
def jsr (n:Nat) (st:St):St:=match hlk st.h n with | some (.row _ _ _)=>{ kill st n with h:=hdel (killH n st.h) n } | _=>st
def wakes (C:Ctx):List (Nat × Nat × List Nat)→St→St
 | [],st=>st
 | (n,_,[]) :: r,st=>wakes C r (jsr n st)
 | (n,j,[e,sz]) :: r,st=>wakes C r (jtr C n j e sz st)
 | (t,_,[e,sz,_]) :: r,st=>wakes C r (jrr C t e sz st)
 | _ :: r,st=>wakes C r st
def insH (n:Nat) (b:Blk):List (Nat × Blk)→List (Nat × Blk)
 | []=>[(n,b)]
 | (k,x) :: r=>if n≤k then (n,b) :: (k,x) :: r else (k,x) :: insH n b r
def jmr:List (Nat × Blk)→List (Nat × Blk) | []=>[] | (n,b) :: r=>insH n b (jmr r)
def sortS (st:St):St:=⟨st.m,st.l,jmr st.h⟩
def endS (C:Ctx) (i:Nat) (st:St):St:=sortS (wakes C (lkO C.ord (i+1000000)) (jww (wakes C (lkO C.ord (i+3000000)) st)))
def addN (ns:List Nat):List (Nat × Nat × List Nat)→List Nat | []=>[] | (x,_,_) :: r=>if isIn ns x then addN ns r else x :: addN ns r
def loopN (C:Ctx) (ns:List Nat):List Nat:=ns++addN ns (lkO C.ord 2000000)
def iter (ns:List Nat) (f:St→Option (Ex × St)):Nat→St→Option (Ex × St)
 | 0,_=>none
 | n+1,st=>match f st with | some (.normal,st1)=>iter ns f n (trim ns st1) | some (.exit j,st1)=>some (.exit j,trim ns st1) | r=>r

def joi (k:St→Option (Ex × St)):Option (Ex × St)→Option (Ex × St)
 | some (.normal,st)=>k st
 | r=>r
def jjb (id:Nat):Option (Ex × St)→Option (Ex × St)
 | some (.exit j,st)=>if j=id then some (.normal,st) else some (.exit j,st)
 | r=>r
def den (C:Ctx) (k:Nat):Code→St→Option (Ex × St)
 | .skip,st=>some (.normal,st)
 | .region i ops d,st=>if d then (runDraw C ops (lkO C.ord i) st).map fun x=>(Ex.normal,endS C i x) else (jvg C ops st).map fun x=>(Ex.normal,endS C i x)
 | .seq a b,st=>joi (den C k b) (den C k a st)
 | .cond c a b,st=>match ev C st [] c with | .d (.b x)=>if x then den C k a st else den C k b st | _=>none
 | .block id a,st=>jjb id (den C k a st)
 | .loop a,st=>iter (loopN C (names st.h)) (den C k a) k st
 | .exit id,st=>some (.exit id,st)
 | .ret,st=>some (.ret,st)
 | _,_=>none

def initP:Nat→List Mode→List DV→Option (List SV × List (Nat × Blk))
 | _,[],[]=>some ([],[])
 | s,.bor :: ms,.one x :: r=>match initP (s+1) ms r with | some (a,b)=>some (.d x :: a,b) | none=>none
 | s,.bor :: ms,.agg xs :: r=>match initP (s+1) ms r with | some (a,b)=>some (.agg (xs.map .d) :: a,b) | none=>none
 | s,.rptr sz :: ms,.ptr xs :: r=>if xs.length=sz then (match initP (s+1) ms r with | some (a,b)=>some (.pv xs 0 :: a,b) | none=>none) else none
 | s,.fnp f sz :: ms,.ptr xs :: r=>if xs.length=sz then (match initP (s+1) ms r with | some (a,b)=>some (.fb f xs :: a,b) | none=>none) else none
 | s,.ptr ks :: ms,.ptr xs :: r=>match layK (nmsF s 1 ks.length) ks xs,initP (s+1) ms r with | some (c,d),some (a,b)=>some (.ptr (nm s 0) 0 :: a,d++(nm s 0,.box c) :: b) | _,_=>none
 | s,.own ks :: ms,.agg xs :: r=>match layK (nmsF s 1 ks.length) ks xs,initP (s+1) ms r with | some (c,d),some (a,b)=>some (.agg c :: a,d++b) | _,_=>none
 | s,.own ks :: ms,.one x :: r=>match layK (nmsF s 1 ks.length) ks [x],initP (s+1) ms r with | some ([c],d),some (a,b)=>some (c :: a,d++b) | _,_=>none
 | s,.io ks :: ms,.agg xs :: r=>match layK (nmsF s 1 ks.length) ks xs,initP (s+1) ms r with | some (c,d),some (a,b)=>some (.agg c :: a,d++b) | _,_=>none
 | s,.io ks :: ms,.one x :: r=>match layK (nmsF s 1 ks.length) ks [x],initP (s+1) ms r with | some ([c],d),some (a,b)=>some (c :: a,d++b) | _,_=>none
 | _,_,_=>none
def initM:List Nat→List SV→List SV
 | [],_=>[]
 | t :: ts,vs=>nth vs t .undef :: initM ts vs
def scD:SV→Option D | .d x=>if isSc x then some x else none | _=>none
def scDs:List SV→Option (List D)
 | []=>some []
 | v :: vs=>match scD v,scDs vs with | some x,some xs=>some (x :: xs) | _,_=>none
def giveK (st:St) (ks:List (Option (Nat × Nat))) (vs:List SV):Option (List D × St) :=
 match takeK st ks vs with | some (xs,st1)=>if scAll ks xs then some (xs,st1) else none | none=>none
def resV (C:Ctx) (st:St):ResultVar→Option SV
 | .tmp t=>some (gt C st [] t)
 | .cell a t=>load C st t (gt C st [] a)
def resVs (C:Ctx) (st:St):List ResultVar→Option (List SV)
 | []=>some []
 | r :: rs=>match resV C st r,resVs C st rs with | some v,some vs=>some (v :: vs) | _,_=>none
def dvOf:SV→List D→Option DV | .agg _,xs=>some (.agg xs) | .tup _,_=>none | _,[x]=>some (.one x) | _,_=>none
def resSc:List SV→Option (List DV)
 | []=>some []
 | v :: vs=>match scDs (cellsOf v) with | some xs=>(match dvOf v xs,resSc vs with | some x,some r=>some (x :: r) | _,_=>none) | none=>none
def resFr (st:St):List (List (Option (Nat × Nat)))→List SV→Option (List DV × St)
 | [],[]=>some ([],st)
 | ks :: kss,v :: vs=>(match giveK st ks (cellsOf v) with
  | some (xs,st1)=>(match dvOf v xs,resFr st1 kss vs with | some x,some (r,st2)=>some (x :: r,st2) | _,_=>none)
  | none=>none)
 | _,_=>none
def epD (zs:List D):SV→Option (Bool × List D)
 | .nilp=>some (false,zs)
 | .pv cs off=>if off+zs.length≤cs.length then some (true,(cs.drop off).take zs.length) else none
 | .op b cs=>if cs.length=zs.length then some (b,cs) else none
 | _=>none
def noPtr:List Mode→Bool | []=>true | .ptr _ :: _=>false | _ :: ms=>noPtr ms
def resNp (st:St) (ks:List (Option (Nat × Nat))) (n:Nat):Option (List DV × St) :=
 match hlk st.h n with
 | some (.box cs)=>(match takeK { kill st n with h:=hdel (killH n st.h) n } ks cs with | some (xs,st1)=>some ([.ptr xs],st1) | none=>none)
 | _=>none
def resOfs (ms:List Mode) (st:St):RMode→List SV→Option (List DV × St)
 | .ep zs,[v]=>(match epD zs v with | some (b,ds)=>some ([.one (.b b),.agg ds],st) | none=>none)
 | .sc _,vs=>(match resSc vs with | some r=>some (r,st) | none=>none)
 | .fresh kss,vs=>resFr st kss vs
 | .freshT zs kss,vs=>(match resFr st kss vs with
  | some (rs,st1)=>(match jvb rs with | some _=>if shD zs rs then some (rs,st1) else none | none=>none)
  | none=>if jvo vs&&lastN zs&&shS zs vs then some (zs,st) else none)
 | .nptr ks,[.ptr n 0]=>if noPtr ms then resNp st ks n else none
 | _,_=>none
def bxOk (n:Nat):Nat→List (Option (Nat × Nat))→List SV→Bool
 | j,none :: ks,.d x :: cs=>isSc x&&bxOk n (j+1) ks cs
 | j,none :: ks,.bx m i _ :: cs=>(decide (m=n)&&decide (i=j))&&bxOk n (j+1) ks cs
 | j,some _ :: ks,_ :: cs=>bxOk n (j+1) ks cs
 | _,[],[]=>true
 | _,_,_=>false
def bxs (n:Nat):Nat→List (Option (Nat × Nat))→List SV→List SV
 | j,none :: ks,.d x :: cs=>(if isSc x then .d x else .bx n j x) :: bxs n (j+1) ks cs
 | j,_ :: ks,c :: cs=>c :: bxs n (j+1) ks cs
 | _,_,cs=>cs
def bxH:Nat→List Mode→List (Nat × Blk)→List (Nat × Blk)
 | s,.ptr ks :: ms,h=>(match hlk h (nm s 0) with | some (.box cs)=>bxH (s+1) ms (hset h (nm s 0) (.box (bxs (nm s 0) 0 ks cs))) | _=>bxH (s+1) ms h)
 | s,_ :: ms,h=>bxH (s+1) ms h
 | _,[],h=>h
def outsOf (s:Nat) (st:St):List Mode→Option (List (List D) × St)
 | .ptr ks :: ms=>(match hlk st.h (nm s 0) with
  | some (.box cs)=>(match (if bxOk (nm s 0) 0 ks cs then takeK st ks cs else none) with | some (x,st1)=>(match outsOf (s+1) st1 ms with | some (r,st2)=>some (x :: r,st2) | none=>none) | none=>none)
  | _=>none)
 | .io _ :: _=>none
 | _ :: ms=>outsOf (s+1) st ms
 | []=>some ([],st)
def jli (C:Ctx) (st:St):Nat→List Mode→List Nat
 | s,.io _ :: ms=>jaa (cellsOf (lkm C.keep st.m s))++jli C st (s+1) ms
 | s,_ :: ms=>jli C st (s+1) ms
 | _,[]=>[]
def jff (C:Ctx) (st:St):Nat→List Mode→Option (List (List D))
 | s,.io ks :: ms=>(match takeI st ks (cellsOf (lkm C.keep st.m s)),jff C st (s+1) ms with | some x,some r=>some (x :: r) | _,_=>none)
 | s,_ :: ms=>jff C st (s+1) ms
 | _,[]=>some []
def jsv (C:Ctx) (sg:Sig) (st:St) (vs:List SV):Option (List DV × List (List D)) :=
 match sg.r with
 | .sc _=>if jyk (jli C st 0 sg.ms)&&jia sg.ms then (match resSc vs,jff C st 0 sg.ms with | some rs,some outs=>some (rs,outs) | _,_=>none) else none
 | _=>none
def fin (C:Ctx) (fn:Func) (sg:Sig):Option (Ex × St)→Option (List DV × List (List D))
 | some (.normal,st) | some (.ret,st)=>(match resVs C st fn.results.toList with
  | some vs=>if jzn sg.ms then jsv C sg st vs else (match resOfs sg.ms st sg.r vs with
   | some (rs,st1)=>(match outsOf 0 st1 sg.ms with | some (outs,_)=>some (rs,outs) | none=>none)
   | none=>none)
  | none=>none)
 | _=>none
def evalBody (P:Program) (sig:Nat→Sig) (F:Nat→List DV→Bool × List DV × List (List D)) (k f:Nat) (args:List DV):Option (List DV × List (List D)) :=
 match P.funcs[f]? with
 | some fn=>(match fn.body with
  | some c=>(match initP 0 (sig f).ms args with
   | some (vs,h)=>(match adds ⟨initM (sig f).keep vs,[],[]⟩ h with
    | some st=>fin ⟨P,sig,F,(sig f).keep,(sig f).ord⟩ fn (sig f) (den ⟨P,sig,F,(sig f).keep,(sig f).ord⟩ k c { st with h:=bxH 0 (sig f).ms st.h })
    | none=>none)
   | none=>none)
  | none=>none)
 | none=>none

end Go.Den

/- The evaluator's equations in the form in which simp takes them. -/
namespace Go.Den
open Go
section
variable (C:Ctx) (k:Nat)
def jrc (b:Code) (r:Option (Ex × St)):Option (Ex × St):=joi (den C k b) r
def jzo (ns:List Nat) (a:Code) (n:Nat) (st:St):Option (Ex × St):=iter ns (den C k a) n st
def jsf (ns:List Nat) (a:Code) (n:Nat):Option (Ex × St)→Option (Ex × St)
 | some (.normal,st1)=>jzo C k ns a n (trim ns st1)
 | some (.exit j,st1)=>some (.exit j,trim ns st1)
 | r=>r
theorem den_skip (st:St):den C k .skip st=some (.normal,st):=rfl
theorem den_region (i:Nat) (ops:Array Oper) (st:St):den C k (.region i ops false) st=(jvg C ops st).map fun x=>(Ex.normal,endS C i x):=rfl
theorem den_draw (i:Nat) (ops:Array Oper) (st:St):den C k (.region i ops true) st=(runDraw C ops (lkO C.ord i) st).map fun x=>(Ex.normal,endS C i x):=rfl
theorem den_seq (a b:Code) (st:St):den C k (.seq a b) st=jrc C k b (den C k a st):=rfl
theorem den_cond (c:Operand) (a b:Code) (st:St):den C k (.cond c a b) st=match ev C st [] c with | .d (.b x)=>if x then den C k a st else den C k b st | _=>none:=rfl
theorem den_block (i:Nat) (a:Code) (st:St):den C k (.block i a) st=jjb i (den C k a st):=rfl
theorem den_loop (a:Code) (st:St):den C k (.loop a) st=jzo C k (loopN C (names st.h)) a k st:=rfl
theorem den_exit (i:Nat) (st:St):den C k (.exit i) st=some (.exit i,st):=rfl
theorem den_ret (st:St):den C k .ret st=some (.ret,st):=rfl
theorem andThenC_normal (b:Code) (st:St):jrc C k b (some (.normal,st))=den C k b st:=rfl
theorem andThenC_exit (b:Code) (i:Nat) (st:St):jrc C k b (some (.exit i,st))=some (.exit i,st):=rfl
theorem andThenC_ret (b:Code) (st:St):jrc C k b (some (.ret,st))=some (.ret,st):=rfl
theorem andThenC_none (b:Code):jrc C k b none=none:=rfl
theorem andThenC_ite (b:Code) (c:Prop) [Decidable c] (x y:Option (Ex × St)):jrc C k b (if c then x else y)=if c then jrc C k b x else jrc C k b y:=by split<;>rfl
theorem inBlock_normal (i:Nat) (st:St):jjb i (some (.normal,st))=some (.normal,st):=rfl
theorem inBlock_ret (i:Nat) (st:St):jjb i (some (.ret,st))=some (.ret,st):=rfl
theorem inBlock_exit (i j:Nat) (st:St):jjb i (some (.exit j,st))=if j=i then some (.normal,st) else some (.exit j,st):=rfl
theorem inBlock_none (i:Nat):jjb i none=none:=rfl
theorem inBlock_ite (i:Nat) (c:Prop) [Decidable c] (x y:Option (Ex × St)):jjb i (if c then x else y)=if c then jjb i x else jjb i y:=by split<;>rfl
theorem iterC_zero (ns:List Nat) (a:Code) (st:St):jzo C k ns a 0 st=none:=rfl
theorem iterC_succ (ns:List Nat) (a:Code) (n:Nat) (st:St):jzo C k ns a (n+1) st=jsf C k ns a n (den C k a st):=by
 show iter ns (den C k a) (n+1) st=_
 unfold iter jsf
 rcases den C k a st with _ | ⟨e,s⟩<;>first | rfl | (cases e<;>rfl)
theorem iterN_normal (ns:List Nat) (a:Code) (n:Nat) (st:St):jsf C k ns a n (some (.normal,st))=jzo C k ns a n (trim ns st):=rfl
theorem iterN_exit (ns:List Nat) (a:Code) (n i:Nat) (st:St):jsf C k ns a n (some (.exit i,st))=some (.exit i,trim ns st):=rfl
theorem iterN_ret (ns:List Nat) (a:Code) (n:Nat) (st:St):jsf C k ns a n (some (.ret,st))=some (.ret,st):=rfl
theorem iterN_none (ns:List Nat) (a:Code) (n:Nat):jsf C k ns a n none=none:=rfl
theorem iterN_ite (ns:List Nat) (a:Code) (n:Nat) (c:Prop) [Decidable c] (x y:Option (Ex × St)):jsf C k ns a n (if c then x else y)=if c then jsf C k ns a n x else jsf C k ns a n y:=by split<;>rfl
theorem runOps_nil (ops:Array Oper) (st:St):runOps C ops [] st=some { st with l:=[] }:=rfl
theorem isSc_b (x:Bool):isSc (.b x)=true:=rfl
theorem isSc_i (k:IntKind) (x:Int):isSc (.i k x)=true:=rfl
theorem isSc_s (x:ByteArray):isSc (.s x)=true:=rfl
theorem isSc_l (x:List (List D)):isSc (.l x)=false:=rfl
theorem svZ_b (x:Bool):svZ (.b x)=.d (.b x):=rfl
theorem svZ_i (k:IntKind) (x:Int):svZ (.i k x)=.d (.i k x):=rfl
theorem svZ_s (x:ByteArray):svZ (.s x)=.d (.s x):=rfl
theorem svZ_l:svZ (.l [])=.nils:=rfl
theorem cellsOf_agg (cs:List SV):cellsOf (.agg cs)=cs:=rfl
theorem cellsOf_d (x:D):cellsOf (.d x)=[.d x]:=rfl
theorem cellsOf_own (x:Nat):cellsOf (.own x)=[.own x]:=rfl
theorem cellsOf_nils:cellsOf .nils=[.nils]:=rfl
theorem cellsOf_ptr (x o:Nat):cellsOf (.ptr x o)=[.ptr x o]:=rfl
theorem map_ite {α β:Type} (f:α→β) (c:Prop) [Decidable c] (x y:Option α):(if c then x else y).map f=if c then x.map f else y.map f:=by split<;>rfl
end
end Go.Den

/- What data a value of the machine stands for: read alone (Rep), owned (OwnD, RowR); slots, variables, the state of a call. -/
namespace Go.Den
open Go

inductive Rep (w:World) (T:Nat→Prop):D→Value→Prop
 | b (x:Bool):Rep w T (.b x) (.bool x)
 | i (k:IntKind) (n:Int):Rep w T (.i k n) (.int k n)
 | s (x:ByteArray):Rep w T (.s x) (.string x)
 | nil (A:Option Addr) (cap:Nat):Rep w T (.l []) (.slice A 0 cap)
 | l (xs:List (List D)) (g o cap sz:Nat) (val:Nat→Nat→Value) (hne:xs≠[]) (hT:T g) (hcap:xs.length≤cap) (hsz:∀r∈xs,r.length=sz)
   (hc:∀i r j d,xs[i]? = some r→r[j]? = some d→w.cell? ⟨g,o+i * sz+j,none⟩=some (val i j))
   (hr:∀i r j d,xs[i]? = some r→r[j]? = some d→Rep w T d (val i j)):Rep w T (.l xs) (.slice (some ⟨g,o,none⟩) xs.length cap)

theorem Rep.take {w:World} {T:Nat→Prop} {xs:List (List D)} {A:Option Addr} {len cap k:Nat} (h:Rep w T (.l xs) (.slice A len cap)) (hk:k≤len):Rep w T (.l (xs.take k)) (.slice A k cap):=by
 by_cases h0:k=0
 ·subst h0;exact .nil _ _
 ·cases h with
  | nil=>omega
  | l _ g o _ sz val hne hT hcap hsz hc hr =>
   have e:(xs.take k).length=k:=by simp;omega
   have hg:∀{i r},(xs.take k)[i]? = some r→xs[i]? = some r:=fun {i r} h=>by
    rw [List.getElem?_take] at h
    split at h
    ·exact h
    ·cases h
   have:=Rep.l (w:=w) (T:=T) (xs.take k) g o cap sz val (by intro h;rw [h] at e;simp at e;omega) hT (by omega) (fun r hr=>hsz r (List.mem_of_mem_take hr)) (fun i r j d h1 h2=>hc i r j d (hg h1) h2) (fun i r j d h1 h2=>hr i r j d (hg h1) h2)
   rwa [e] at this
inductive OwnD (w:World):(Nat→Prop)→D→Value→Prop
 | b (φ:Nat→Prop) (x:Bool):OwnD w φ (.b x) (.bool x)
 | i (φ:Nat→Prop) (k:IntKind) (n:Int):OwnD w φ (.i k n) (.int k n)
 | s (φ:Nat→Prop) (x:ByteArray):OwnD w φ (.s x) (.string x)
 | nil (φ:Nat→Prop):OwnD w φ (.l []) (.slice none 0 0)
 | l (φ:Nat→Prop) (xs:List (List D)) (g o cap sz e:Nat) (cur:Array Value) (val:Nat→Nat→Value) (ψ:Nat→Nat→Nat→Prop)
   (hg:w.heap[g]? = some (.cells cur e (0,0))) (hφ:φ g) (hcap:xs.length≤cap) (hcur:o+cap * sz≤cur.size) (hsz:∀r∈xs,r.length=sz)
   (hc:∀i r j d,xs[i]? = some r→r[j]? = some d→cur[o+i * sz+j]? = some (val i j))
   (hψ:∀i j k,ψ i j k→φ k∧k≠g) (hd:∀i j i' j' k,ψ i j k→ψ i' j' k→i=i'∧j=j')
   (hr:∀i r j d,xs[i]? = some r→r[j]? = some d→OwnD w (ψ i j) d (val i j)):OwnD w φ (.l xs) (.slice (some ⟨g,o,none⟩) xs.length cap)

def RowR (w:World) (e sz:Nat) (φ:Nat→Prop) (xs:List (List D)) (v:Value):Prop :=
 (v=.slice none 0 0∧xs=[]) ∨
 ∃(g o cap t:Nat) (cur:Array Value) (val:Nat→Nat→Value) (ψ:Nat→Nat→Nat→Prop),v=.slice (some ⟨g,o,none⟩) xs.length cap ∧
  w.heap[g]? = some (.cells cur t (0,0))∧φ g∧xs.length≤cap∧o+cap * sz≤cur.size∧(∀r∈xs,r.length=sz) ∧
  (∀i r j d,xs[i]? = some r→r[j]? = some d→cur[o+i * sz+j]? = some (val i j)) ∧
  (∀i j k,ψ i j k→φ k∧k≠g)∧(∀i j i' j' k,ψ i j k→ψ i' j' k→i=i'∧j=j') ∧
  (∀i r j d,xs[i]? = some r→r[j]? = some d→OwnD w (ψ i j) d (val i j))

theorem Rep.one {w:World} {T:Nat→Prop} {d:D} {v:Value} (h:Rep w T d v):v.oneCell'=true:=by cases h<;>rfl
theorem OwnD.one {w:World} {φ:Nat→Prop} {d:D} {v:Value} (h:OwnD w φ d v):v.oneCell'=true:=by cases h<;>rfl
theorem Rep.mono {w w':World} {T T':Nat→Prop} {d:D} {v:Value} (h:Rep w T d v) (hT:∀k,T k→T' k) (hw:∀k,T k→w'.heap[k]? = w.heap[k]?):Rep w' T' d v:=by
 induction h with
 | b x=>exact .b x
 | i k n=>exact .i k n
 | s x=>exact .s x
 | nil A cap=>exact .nil A cap
 | l xs g o cap sz val hne hg hcap hsz hc hr ih =>
  exact .l xs g o cap sz val hne (hT g hg) hcap hsz (fun i r j d h1 h2=>by rw [World.cell?_of_block (hw g hg)];exact hc i r j d h1 h2) ih
theorem OwnD.mono {w w':World} {φ φ':Nat→Prop} {d:D} {v:Value} (h:OwnD w φ d v) (hφ:∀k,φ k→φ' k) (hw:∀k,φ k→w'.heap[k]? = w.heap[k]?):OwnD w' φ' d v:=by
 induction h generalizing φ' with
 | b φ x=>exact .b _ x
 | i φ k n=>exact .i _ k n
 | s φ x=>exact .s _ x
 | nil φ=>exact .nil _
 | l φ xs g o cap sz e cur val ψ hg hp hcap hcur hsz hc hψ hd hr ih =>
  exact .l _ xs g o cap sz e cur val ψ (by rw [hw g hp];exact hg) (hφ g hp) hcap hcur hsz hc (fun i j k hk=>⟨hφ k (hψ i j k hk).1,(hψ i j k hk).2⟩) hd
   (fun i r j d h1 h2=>ih i r j d h1 h2 (fun k hk=>hk) (fun k hk=>hw k (hψ i j k hk).1))
theorem OwnD.rep {w:World} {φ T:Nat→Prop} {d:D} {v:Value} (h:OwnD w φ d v) (hT:∀k,φ k→T k):Rep w T d v:=by
 induction h with
 | b φ x=>exact .b x
 | i φ k n=>exact .i k n
 | s φ x=>exact .s x
 | nil φ=>exact .nil _ _
 | l φ xs g o cap sz e cur val ψ hg hp hcap hcur hsz hc hψ hd hr ih =>
  by_cases hne:xs=[]
  ·subst hne;exact .nil _ _
  ·exact .l xs g o cap sz val hne (hT g hp) hcap hsz (fun i r j d h1 h2=>by rw [cell_of_row w g _ cur e (0,0) hg];exact hc i r j d h1 h2)
    (fun i r j d h1 h2=>ih i r j d h1 h2 (fun k hk=>hT k (hψ i j k hk).1))
theorem RowR.own {w:World} {e sz:Nat} {φ:Nat→Prop} {xs:List (List D)} {v:Value} (h:RowR w e sz φ xs v):OwnD w φ (.l xs) v:=by
 rcases h with ⟨rfl,rfl⟩ | ⟨g,o,cap,t,cur,val,ψ,rfl,hg,hp,hcap,hcur,hsz,hc,hψ,hd,hr⟩
 ·exact .nil _
 ·exact .l _ xs g o cap sz t cur val ψ hg hp hcap hcur hsz hc hψ hd hr
theorem RowR.mono {w w':World} {e sz:Nat} {φ φ':Nat→Prop} {xs:List (List D)} {v:Value} (h:RowR w e sz φ xs v) (hφ:∀k,φ k→φ' k) (hw:∀k,φ k→w'.heap[k]? = w.heap[k]?):RowR w' e sz φ' xs v:=by
 rcases h with ⟨rfl,rfl⟩ | ⟨g,o,cap,t,cur,val,ψ,rfl,hg,hp,hcap,hcur,hsz,hc,hψ,hd,hr⟩
 ·exact .inl ⟨rfl,rfl⟩
 ·exact .inr ⟨g,o,cap,t,cur,val,ψ,rfl,by rw [hw g hp];exact hg,hφ g hp,hcap,hcur,hsz,hc,fun i j k hk=>⟨hφ k (hψ i j k hk).1,(hψ i j k hk).2⟩,hd,
   fun i r j d h1 h2=>(hr i r j d h1 h2).mono (fun k hk=>hk) (fun k hk=>hw k (hψ i j k hk).1)⟩

def RowX (w:World) (e sz:Nat) (φ:Nat→Prop) (xs:List (List D)) (v:Value):Prop:=RowR w e sz φ xs v∨(e=wk∧xs=[]∧∃A cap,v=.slice A 0 cap)
theorem RowR.x {w:World} {e sz:Nat} {φ:Nat→Prop} {xs:List (List D)} {v:Value} (h:RowR w e sz φ xs v):RowX w e sz φ xs v:=.inl h
theorem RowX.mono {w w':World} {e sz:Nat} {φ φ':Nat→Prop} {xs:List (List D)} {v:Value} (h:RowX w e sz φ xs v) (hφ:∀k,φ k→φ' k) (hw:∀k,φ k→w'.heap[k]? = w.heap[k]?):RowX w' e sz φ' xs v:=by
 rcases h with h | h
 ·exact .inl (h.mono hφ hw)
 ·exact .inr h
theorem RowX.row {w:World} {e sz:Nat} {φ:Nat→Prop} {xs:List (List D)} {v:Value} (h:RowX w e sz φ xs v) (he:e≠wk):RowR w e sz φ xs v:=by
 rcases h with h | h
 ·exact h
 ·exact absurd h.1 he
theorem RowX.some {w:World} {e sz:Nat} {φ:Nat→Prop} {xs:List (List D)} {v:Value} (h:RowX w e sz φ xs v) (he:xs≠[]):RowR w e sz φ xs v:=by
 rcases h with h | h
 ·exact h
 ·exact absurd h.2.1 he
theorem RowX.rep {w:World} {e sz:Nat} {φ T:Nat→Prop} {xs:List (List D)} {v:Value} (h:RowX w e sz φ xs v) (hT:∀k,φ k→T k):Rep w T (.l xs) v:=by
 rcases h with h | ⟨_,rfl,A,cap,rfl⟩
 ·exact h.own.rep hT
 ·exact .nil A cap
theorem RowX.one {w:World} {e sz:Nat} {φ:Nat→Prop} {xs:List (List D)} {v:Value} (h:RowX w e sz φ xs v):v.oneCell'=true:=by
 rcases h with h | ⟨_,_,A,cap,rfl⟩
 ·exact h.own.one
 ·rfl
theorem RowX.weak {w:World} {e sz:Nat} {φ φ':Nat→Prop} {xs:List (List D)} {v:Value} (h:RowX w e sz φ xs v) (hφ:xs≠[]→∀k,φ k→φ' k):RowX w wk sz φ' xs v:=by
 by_cases hx:xs=[]
 ·subst hx
  rcases h with (⟨rfl,_⟩ | ⟨g,o,cap,t,cur,val,ψ,rfl,_⟩) | ⟨_,_,A,cap,rfl⟩
  ·exact .inr ⟨rfl,rfl,_,_,rfl⟩
  ·exact .inr ⟨rfl,rfl,_,_,rfl⟩
  ·exact .inr ⟨rfl,rfl,_,_,rfl⟩
 ·exact .inl ((h.some hx).mono (hφ hx) (fun _ _=>rfl))
theorem RowX.len {w:World} {e sz:Nat} {φ:Nat→Prop} {xs:List (List D)} {v:Value} (h:RowX w e sz φ xs v):∃A cap,v=.slice A xs.length cap:=by
 rcases h with (⟨rfl,rfl⟩ | ⟨g,o,cap,t,cur,val,ψ,rfl,_⟩) | ⟨_,rfl,A,cap,rfl⟩
 ·exact ⟨none,0,rfl⟩
 ·exact ⟨_,_,rfl⟩
 ·exact ⟨A,cap,rfl⟩

structure Gh where
 live:Nat→Prop
 base:Nat→Nat × Nat
 hv:Nat→Value
 φ:Nat→Nat→Prop

structure Rt where
 w0:World
 T:Nat→Prop
 L:Nat→Prop
 LB:Nat→Nat→Nat→Prop
 fix:Nat→Option (Nat × Nat)

def PvR (R:Rt) (cs:List D) (off:Nat) (v:Value):Prop :=
 ∃g o,v=.pointer (some ⟨g,o+off,none⟩)∧R.T g∧∀j d,cs[j]? = some d→∃u,R.w0.cell? ⟨g,o+j,none⟩=some u∧Rep R.w0 R.T d u
def RpR (G:Gh) (sz:Nat) (n i off:Nat) (v:Value):Prop :=
 ∃g o len cap,G.hv n=.slice (some ⟨g,o,none⟩) len cap∧v=.pointer (some ⟨g,o+i * sz+off,none⟩)
theorem PvR.one {R:Rt} {cs:List D} {off:Nat} {v:Value} (h:PvR R cs off v):v.oneCell'=true:=by obtain ⟨g,o,rfl,_⟩:=h;rfl
def CRel (R:Rt) (G:Gh) (h:List (Nat × Blk)):SV→Value→Prop
 | .d x,v=>Rep R.w0 R.T x v
 | .nils,v=>v=.slice none 0 0
 | .own n,v=>G.live n∧v=G.hv n∧v.oneCell'=true
 | .ptr n off,v=>G.live n∧v=.pointer (some ⟨(G.base n).1,(G.base n).2+off,none⟩)
 | .nilp,v=>v=.pointer none
 | .pv cs off,v=>PvR R cs off v
 | .rp n i off,v=>G.live n∧∃e sz xs,hlk h n=some (.row e sz xs)∧RpR G sz n i off v
 | .ov n k,v=>G.live n∧∃A len cap,G.hv n=.slice A len cap∧k≤len∧v=.slice A k cap
 | .fn f,v=>v=.func (.func f) #[] #[]
 | .op b cs,v=>(b=true→PvR R cs 0 v)∧(b=false→v=.pointer none)
 | .fp f n off,v=>G.live n∧v=.func (.func f) #[.pointer (some ⟨(G.base n).1,(G.base n).2+off,none⟩)] #[]
 | .fb f cs,v=>∃p,v=.func (.func f) #[p] #[]∧PvR R cs 0 p
 | .bx n j x,v=>(∃b,R.fix n=some b∧R.w0.cell? ⟨b.1,b.2+j,none⟩=some v)∧Rep R.w0 R.T x v
 | .undef,_=>True
 | .agg _,_=>False
 | .tup _,_=>False
def ARel (R:Rt) (G:Gh) (h:List (Nat × Blk)):SV→Value→Prop
 | .agg cs,v=>∃vs:List Value,v=.agg vs.toArray∧vs.length=cs.length∧∀(j:Nat) x,cs[j]? = some x→∃u,vs[j]? = some u∧u.oneCell'=true∧CRel R G h x u
 | x,v=>CRel R G h x v
def VRel (R:Rt) (G:Gh) (h:List (Nat × Blk)):SV→Value→Prop
 | .tup xs,v=>∃vs:List Value,v=.tuple vs.toArray∧vs.length=xs.length∧∀(j:Nat) x,xs[j]? = some x→∃u,vs[j]? = some u∧ARel R G h x u
 | x,v=>ARel R G h x v

structure WInv (R:Rt) (w:World):Prop where
 os:w.os=R.w0.os
 tape:w.tape=R.w0.tape
 output:w.output=R.w0.output
 size:R.w0.heap.size≤w.heap.size
 T:∀k,R.T k→k < R.w0.heap.size∧¬ R.L k
 old:∀k,k < R.w0.heap.size→¬ R.L k→w.heap[k]? = R.w0.heap[k]?
 out:∀k lo hi,R.LB k lo hi→∃cur cur0 e fz,R.w0.heap[k]? = some (.cells cur0 e fz)∧w.heap[k]? = some (.cells cur e fz)∧cur.size=cur0.size∧∀o,(o < lo∨hi≤o)→cur[o]? = cur0[o]?
def BRel (R:Rt) (G:Gh) (h:List (Nat × Blk)) (P:Program) (w:World) (n:Nat):Blk→Prop
 | .box cs=>∃cur e,w.heap[(G.base n).1]? = some (.cells cur e (0,0))∧G.φ n (G.base n).1∧(∀lo hi,R.LB (G.base n).1 lo hi→lo≤(G.base n).2∧(G.base n).2+cs.length≤hi) ∧
   (G.base n).2+cs.length≤cur.size∧∀(j:Nat) x,cs[j]? = some x→∃u,cur[(G.base n).2+j]? = some u∧u.oneCell'=true∧CRel R G h x u
 | .row e sz xs=>RowX w e sz (G.φ n) xs (G.hv n)∧(e=wk∨∃i,P.info? e=some i∧i.size=sz)∧0 < sz∧∀k lo hi,G.φ n k→¬ R.LB k lo hi
structure BInv (R:Rt) (G:Gh) (h:List (Nat × Blk)) (P:Program) (w:World):Prop where
 rel:∀n,G.live n→∃b,hlk h n=some b∧BRel R G h P w n b
 disj:∀n m,G.live n→G.live m→n≠m→∀k,G.φ n k→G.φ m k→False
 mine:∀n,G.live n→∀k,G.φ n k→k < w.heap.size∧(R.L k∨R.w0.heap.size≤k)
 fix:∀n b,R.fix n=some b→G.live n∧G.base n=b∧∃cs,hlk h n=some (.box cs)

def jma (C:Ctx) (R:Rt) (G:Gh) (st:St) (a:Act) (t:Nat):Prop :=
 match lk st.l t with
 | some (_,c,v)=>if c then VRel R G st.h v (a.tmps.getD t undef) else a.tmps.getD t undef=undef
 | none=>VRel R G st.h (lkm C.keep st.m t) (a.tmps.getD t undef)
end Go.Den

/- Reading slots and operands; the operations that change nothing. -/
namespace Go.Den
open Go

section
variable {R:Rt} {G:Gh} {h:List (Nat × Blk)} {v:Value}
theorem vrel_d {x:D}:VRel R G h (.d x) v=Rep R.w0 R.T x v:=rfl
theorem jpb {k:IntKind} {n:Int} (H:VRel R G h (.d (.i k n)) v):v=.int k n:=by cases H;rfl
theorem jkc {x:Bool} (H:VRel R G h (.d (.b x)) v):v=.bool x:=by cases H;rfl
theorem jnl {x:ByteArray} (H:VRel R G h (.d (.s x)) v):v=.string x:=by cases H;rfl
theorem vrel_c {x:SV} (hx:∀cs,x≠.agg cs) (hx':∀cs,x≠.tup cs):VRel R G h x v=CRel R G h x v:=by
 cases x<;>first | rfl | exact absurd rfl (hx _) | exact absurd rfl (hx' _)
end

def jtb (l:List (Nat × Path × Bool × SV)) (p:Path) (c:Bool):Prop :=
 (p=[]∧c=true)∨∃q t b c' x,p=q++[(t,b)]∧lk l t=some (q,c',.d (.b x))∧c=(c'&&(x==b))
def PI (l:List (Nat × Path × Bool × SV)):Prop:=∀t q c v,lk l t=some (q,c,v)→jtb l q c

theorem jgg:∀(p q:Path),pre p q=true↔∃r,q=p++r
 | [],q=>by simp [pre]
 | (a,x) :: p,[]=>by simp [pre]
 | (a,x) :: p,(b,y) :: q=>by
  simp only [pre]
  by_cases h1:a=b
  ·subst h1
   by_cases h2:x=y
   ·subst h2;simp [jgg p q]
   ·simp [h2,Ne.symm h2]
  ·simp [h1,Ne.symm h1]

theorem jtj {l:List (Nat × Path × Bool × SV)} (hl:PI l):∀(n:Nat) (p q:Path) (c d:Bool),p.length=n→pre q p=true→jtb l p c→jtb l q d→c=true→d=true:=by
 intro n
 induction n with
 | zero =>
  intro p q c d hn hp h1 h2 hc
  have:p=[]:=List.eq_nil_of_length_eq_zero hn
  subst this
  obtain ⟨r,hr⟩:=(jgg q []).1 hp
  have hq:q=[]:=by
   cases q with
   | nil=>rfl
   | cons a b=>cases hr
  subst hq
  rcases h2 with ⟨_,h⟩ | ⟨q',t,b,c',x,he,_⟩
  ·exact h
  ·simp at he
 | succ n ih =>
  intro p q c d hn hp h1 h2 hc
  rcases h1 with ⟨rfl,_⟩ | ⟨p',t,b,c',x,rfl,hlk,rfl⟩
  ·simp at hn
  ·obtain ⟨r,hr⟩:=(jgg q _).1 hp
   simp only [Bool.and_eq_true,beq_iff_eq] at hc
   rcases List.eq_nil_or_concat r with rfl | ⟨r',y,rfl⟩
   ·simp only [List.append_nil] at hr
    subst hr
    rcases h2 with ⟨he,_⟩ | ⟨q',t',b',c'',x',he,hlk',rfl⟩
    ·simp at he
    ·have:=List.append_inj' he rfl
     obtain ⟨h3,h4⟩:=this
     simp only [List.cons.injEq,Prod.mk.injEq,and_true] at h4
     obtain ⟨rfl,rfl⟩:=h4
     subst h3
     rw [hlk] at hlk'
     cases hlk'
     simp [hc.1,hc.2]
   ·rw [List.concat_eq_append,←List.append_assoc] at hr
    have:=List.append_inj' hr rfl
    obtain ⟨h3,_⟩:=this
    subst h3
    have hq:pre q (q++r')=true:=(jgg _ _).2 ⟨r',rfl⟩
    exact ih _ q c' d (by simp at hn ⊢;omega) hq (hl _ _ _ _ hlk) h2 hc.1

variable {C:Ctx} {R:Rt} {G:Gh} {st:St} {a:Act}

def Good (l:List (Nat × Path × Bool × SV)) (p:Path):Prop:=∀t q c v,lk l t=some (q,c,v)→pre q p=true→c=true
theorem good_of {l:List (Nat × Path × Bool × SV)} {p:Path} (hl:PI l) (hp:jtb l p true):Good l p:=fun t q c v h hq=>jtj hl _ p q true c rfl hq hp (hl _ _ _ _ h) rfl
theorem jqh {p:Path} {t:Nat} {b:Bool} (hl:PI st.l) (hp:jtb st.l p true) (h1:gt C st p t=.d (.b b)):Good st.l (p++[(t,b)]):=by
 intro u q2 c2 v2 hk2 hpre2
 have hP2:jtb st.l q2 c2:=hl _ _ _ _ hk2
 obtain ⟨r2,hr2⟩:=(jgg q2 _).1 hpre2
 rcases List.eq_nil_or_concat r2 with rfl | ⟨r3,y3,rfl⟩
 ·simp only [List.append_nil] at hr2
  rcases hP2 with ⟨h0,h00⟩ | ⟨q',t',b',c',x',he,hlk',hcc⟩
  ·exact h00
  ·rw [he] at hr2
   have h5:=List.append_inj' hr2 rfl
   obtain ⟨h6,h7⟩:=h5
   simp only [List.cons.injEq,Prod.mk.injEq,and_true] at h7
   obtain ⟨rfl,rfl⟩:=h7
   subst h6
   unfold gt at h1
   rw [hlk'] at h1
   dsimp only at h1
   split at h1
   ·cases h1
    have hc':c'=true:=jtj hl _ p p true c' rfl (by rename_i h;exact h) hp (hl _ _ _ _ hlk') rfl
    rw [hcc,hc']
    simp
   ·cases h1
 ·rw [List.concat_eq_append,←List.append_assoc] at hr2
  have h5:=List.append_inj' hr2 rfl
  exact jtj hl _ p q2 true c2 rfl ((jgg _ _).2 ⟨r3,h5.1⟩) hp hP2 rfl
theorem jpg {p:Path} {t:Nat} (hp:Good st.l p) (hs:jma C R G st a t):VRel R G st.h (gt C st p t) (a.tmps.getD t undef):=by
 unfold gt
 unfold jma at hs
 cases h:lk st.l t with
 | none=>rw [h] at hs;exact hs
 | some e =>
  obtain ⟨q,c,v⟩:=e
  rw [h] at hs
  dsimp only at hs ⊢
  split
  ·rename_i hq
   rw [if_pos (hp _ _ _ _ h hq)] at hs
   exact hs
  ·trivial
theorem jdy {h:List (Nat × Blk)} (v:Value):VRel R G h (ofConst v) v:=by
 unfold ofConst
 split
 ·exact Rep.b _
 ·exact Rep.i _ _
 ·exact Rep.s _
 ·rfl
 ·rfl
 ·trivial
theorem jqg {p:Path} {x:Operand} (hp:Good st.l p) (hs:∀t,x=.tmp t→jma C R G st a t):VRel R G st.h (ev C st p x) (a.eval x):=by
 cases x with
 | tmp t=>exact jpg hp (hs t rfl)
 | const v=>exact jdy v
 | global g=>trivial
 | func f=>rfl
theorem jgu {p:Path} (hp:Good st.l p):∀(xs:List Operand),(∀t,Operand.tmp t∈xs→jma C R G st a t) →
  ∀(j:Nat) v,(evs C st p xs)[j]? = some v→∃x,xs[j]? = some x∧v=ev C st p x∧VRel R G st.h v (a.eval x)
 | [],_,j,v,h=>by simp [evs] at h
 | x :: xs,hs,j,v,h=>by
  cases j with
  | zero =>
   simp only [evs,List.getElem?_cons_zero,Option.some.injEq] at h
   subst h
   exact ⟨x,rfl,rfl,jqg hp (fun t ht=>hs t (by simp [ht]))⟩
  | succ j =>
   simp only [evs,List.getElem?_cons_succ] at h
   obtain ⟨y,h1,h2⟩:=jgu hp xs (fun t ht=>hs t (by simp [ht])) j v h
   exact ⟨y,by simpa using h1,h2⟩
theorem jcj {p:Path}:∀(xs:List Operand),(evs C st p xs).length=xs.length
 | []=>rfl
 | x :: xs=>by simp [evs,jcj xs]
end Go.Den

/- Types: what the evaluator's table says is what the program says; loading and storing cells. -/
namespace Go.Den
open Go
variable {P:Program} {t e:TypeId} {w:World}

theorem jin {fs:List (Nat × Nat)} {zs:List D} (h:tyOf P t=.st fs zs):∃F i cs,P.info? t=some i∧P.underlying t=some (.struct F)∧i.zero=some (.agg cs)∧jhi cs.toList=some zs∧fsOf P F.toList=some fs∧i.size=zs.length:=by
 unfold tyOf at h
 cases hi:P.info? t with
 | none=>simp [hi] at h
 | some i =>
  simp only [hi] at h
  split at h
  all_goals (try (split at h))
  all_goals (try (split at h))
  all_goals (first | (cases h;done) | skip)
  rename_i F cs h1 h2 _ _ zs1 r h3 h4 h5
  cases h
  exact ⟨F,i,cs,rfl,h1,h2,h3,h4,h5⟩
theorem jed (h:tyOf P t=.sl e):∃i,P.info? t=some i∧P.underlying t=some (.slice e)∧i.zero=some (.slice none 0 0)∧i.size=1:=by
 unfold tyOf at h
 cases hi:P.info? t with
 | none=>simp [hi] at h
 | some i =>
  simp only [hi] at h
  split at h
  all_goals (try (split at h))
  all_goals (try (split at h))
  all_goals (first | (cases h;done) | skip)
  rename_i e' h1 h2 h3
  cases h
  exact ⟨i,rfl,h1,h2,h3⟩
theorem jkk {k:IntKind} (h:tyOf P t=.int k):∃i,P.info? t=some i∧P.underlying t=some (.int k)∧i.zero=some (.int k 0)∧i.size=1:=by
 unfold tyOf at h
 cases hi:P.info? t with
 | none=>simp [hi] at h
 | some i =>
  simp only [hi] at h
  split at h
  all_goals (try (split at h))
  all_goals (try (split at h))
  all_goals (first | (cases h;done) | skip)
  rename_i k1 k2 h1 h2 h3
  obtain ⟨h3,h4⟩:=h3
  cases h
  subst h4
  exact ⟨i,rfl,h1,h2,h3⟩
theorem jkp (h:tyOf P t=.bool):∃i,P.info? t=some i∧P.underlying t=some .bool∧i.zero=some (.bool false)∧i.size=1:=by
 unfold tyOf at h
 cases hi:P.info? t with
 | none=>simp [hi] at h
 | some i =>
  simp only [hi] at h
  split at h
  all_goals (try (split at h))
  all_goals (try (split at h))
  all_goals (first | (cases h;done) | skip)
  rename_i h1 h2 h3
  exact ⟨i,rfl,h1,h2,h3⟩
theorem jii (h:tyOf P t=.str):∃i,P.info? t=some i∧P.underlying t=some .string∧i.zero=some (.string ⟨#[]⟩)∧i.size=1:=by
 unfold tyOf at h
 cases hi:P.info? t with
 | none=>simp [hi] at h
 | some i =>
  simp only [hi] at h
  split at h
  all_goals (try (split at h))
  all_goals (try (split at h))
  all_goals (first | (cases h;done) | skip)
  rename_i s h1 h2 h3
  obtain ⟨h3,rfl⟩:=h3
  exact ⟨i,rfl,h1,h2,h3⟩
theorem jbo (h:tyOf P t=.ptr e):∃i,P.info? t=some i∧P.underlying t=some (.pointer e)∧i.zero=some (.pointer none)∧i.size=1:=by
 unfold tyOf at h
 cases hi:P.info? t with
 | none=>simp [hi] at h
 | some i =>
  simp only [hi] at h
  split at h
  all_goals (try (split at h))
  all_goals (try (split at h))
  all_goals (first | (cases h;done) | skip)
  rename_i e' h1 h2 h3
  cases h
  exact ⟨i,rfl,h1,h2,h3⟩
theorem jzu (h:okTy (tyOf P t)=true):∃i d,P.info? t=some i∧P.underlying t=some d∧i.size=(tyOf P t).size∧(match d with | .struct _ | .array _ _=>true | _=>false)=isAggTy (tyOf P t):=by
 cases hk:tyOf P t with
 | int k=>obtain ⟨i,h1,h2,_,h4⟩:=jkk hk;exact ⟨i,_,h1,h2,h4,rfl⟩
 | bool=>obtain ⟨i,h1,h2,_,h4⟩:=jkp hk;exact ⟨i,_,h1,h2,h4,rfl⟩
 | str=>obtain ⟨i,h1,h2,_,h4⟩:=jii hk;exact ⟨i,_,h1,h2,h4,rfl⟩
 | sl e=>obtain ⟨i,h1,h2,_,h4⟩:=jed hk;exact ⟨i,_,h1,h2,h4,rfl⟩
 | ptr e=>obtain ⟨i,h1,h2,_,h4⟩:=jbo hk;exact ⟨i,_,h1,h2,h4,rfl⟩
 | st fs zs=>obtain ⟨F,i,cs,h1,h2,_,_,_,h4⟩:=jin hk;exact ⟨i,_,h1,h2,h4,rfl⟩
 | other=>rw [hk] at h;cases h
theorem jiq {v:Value} {z:D} (h:jzl v=some z) (w:World) (T:Nat→Prop):Rep w T z v∧(z=.l []→v=.slice none 0 0)∧OwnD w T z v:=by
 unfold jzl at h
 split at h<;>cases h
 ·exact ⟨.b _,(fun h=>by cases h),.b _ _⟩
 ·exact ⟨.i _ _,(fun h=>by cases h),.i _ _ _⟩
 ·exact ⟨.s _,(fun h=>by cases h),.s _ _⟩
 ·exact ⟨.nil _ _,fun _=>rfl,.nil _⟩
theorem jui:∀{vs:List Value} {zs:List D},jhi vs=some zs→zs.length=vs.length∧∀(j:Nat) z,zs[j]? = some z→∃v,vs[j]? = some v∧jzl v=some z
 | [],zs,h=>by simp [jhi] at h;subst h;simp
 | v :: vs,zs,h=>by
  simp only [jhi] at h
  split at h
  ·rename_i x xs h1 h2
   cases h
   obtain ⟨h3,h4⟩:=jui h2
   refine ⟨by simp [h3],fun j z hj=>?_⟩
   cases j with
   | zero=>simp at hj;subst hj;exact ⟨v,rfl,h1⟩
   | succ j=>simp at hj ⊢;exact h4 j z hj
  ·cases h
theorem jzb {zs:List D} (h:(tyOf P t).zeros=some zs):∃i z,P.info? t=some i∧i.zero=some z∧i.size=zs.length∧z.cells.size=zs.length∧zs.length=(tyOf P t).size ∧
  ∀(j:Nat) x,zs[j]? = some x→∃v,z.cells.toList[j]? = some v∧jzl v=some x:=by
 cases hk:tyOf P t with
 | int k =>
  obtain ⟨i,h1,h2,h3,h4⟩:=jkk hk
  rw [hk] at h;cases h
  exact ⟨i,_,h1,h3,h4,rfl,rfl,fun j x hj=>by cases j with | zero=>simp at hj;subst hj;exact ⟨_,rfl,rfl⟩ | succ j=>simp at hj⟩
 | bool =>
  obtain ⟨i,h1,h2,h3,h4⟩:=jkp hk
  rw [hk] at h;cases h
  exact ⟨i,_,h1,h3,h4,rfl,rfl,fun j x hj=>by cases j with | zero=>simp at hj;subst hj;exact ⟨_,rfl,rfl⟩ | succ j=>simp at hj⟩
 | str =>
  obtain ⟨i,h1,h2,h3,h4⟩:=jii hk
  rw [hk] at h;cases h
  exact ⟨i,_,h1,h3,h4,rfl,rfl,fun j x hj=>by cases j with | zero=>simp at hj;subst hj;exact ⟨_,rfl,rfl⟩ | succ j=>simp at hj⟩
 | sl e =>
  obtain ⟨i,h1,h2,h3,h4⟩:=jed hk
  rw [hk] at h;cases h
  exact ⟨i,_,h1,h3,h4,rfl,rfl,fun j x hj=>by cases j with | zero=>simp at hj;subst hj;exact ⟨_,rfl,rfl⟩ | succ j=>simp at hj⟩
 | st fs zs' =>
  obtain ⟨F,i,cs,h1,h2,h3,h4,h5,h6⟩:=jin hk
  rw [hk] at h;cases h
  obtain ⟨h7,h8⟩:=jui h4
  exact ⟨i,_,h1,h3,h6,by simp [Value.cells,h7],rfl,fun j x hj=>h8 j x hj⟩
 | ptr e=>rw [hk] at h;cases h
 | other=>rw [hk] at h;cases h

theorem jmb (g o n:Nat):(⟨g,o,none⟩:Addr).add n=⟨g,o+n,none⟩:=by unfold Addr.add;split<;>simp_all
theorem jkb {g o:Nat} {vs:List Value} (hk:okTy (tyOf P t)=true) (hl:vs.length=(tyOf P t).size) (hc:∀(j:Nat) u,vs[j]? = some u→w.cell? ⟨g,o+j,none⟩=some u) :
  (loadVar t ⟨g,o,none⟩).run P w=.ok (if isAggTy (tyOf P t) then .agg vs.toArray else (vs.headD undef)) w:=by
 obtain ⟨i,d,hi,hu,hs,hd⟩:=jzu hk
 have hagg:(isAgg t).run P w=.ok (isAggTy (tyOf P t)) w:=by
  unfold isAgg
  rw [Sem.run_bind,run_underlying hu w]
  cases d<;>simp_all
 have hl2:(loadCells ⟨g,o,none⟩ vs.length).run P w=.ok vs.toArray w:=run_loadCells_list (P:=P) w ⟨g,o,none⟩ vs (fun j v hv=>by rw [jmb];exact hc j v hv)
 cases hA:isAggTy (tyOf P t) with
 | true =>
  rw [hA] at hagg
  have hs2:i.size=vs.length:=by rw [hs,hl]
  simp [loadVar,Sem.run_bind,hagg,sizeOf,typeInfo,hi,hs2,hl2]
 | false =>
  rw [hA] at hagg
  have h1:vs.length=1:=by
   rw [hl]
   cases hk2:tyOf P t<;>simp_all [Ty.size,isAggTy]
  match vs,h1 with
  | [u],_ =>
   have:=hc 0 u rfl
   simp only [Nat.add_zero] at this
   simp [loadVar,Sem.run_bind,hagg,this]
end Go.Den

/- The operations that change nothing and call nothing: each comes to what the evaluator says. -/
namespace Go.Den
open Go
variable {C:Ctx} {R:Rt} {G:Gh} {st:St} {a:Act} {w:World} {p:Path} {o:Oper} {v:SV}

def Does (C:Ctx) (R:Rt) (G:Gh) (st:St) (a:Act) (w:World) (o:Oper) (v:SV):Prop :=
 ∃val,(execOp a.eval o).run C.P w=.ok (.value val) w∧VRel R G st.h v val

structure Here (C:Ctx) (R:Rt) (G:Gh) (st:St) (a:Act) (w:World) (p:Path):Prop where
 W:WInv R w
 B:BInv R G st.h C.P w
 l:PI st.l
 p:jtb st.l p true
def Slots (C:Ctx) (R:Rt) (G:Gh) (st:St) (a:Act) (xs:List Operand):Prop:=∀t,Operand.tmp t∈xs→jma C R G st a t
theorem Here.good (H:Here C R G st a w p):Good st.l p:=good_of H.l H.p
theorem Here.ev (H:Here C R G st a w p) {xs:List Operand} (hs:Slots C R G st a xs) {x:Operand} (hx:x∈xs):VRel R G st.h (ev C st p x) (a.eval x) :=
 jqg H.good (fun t ht=>hs t (ht ▸ hx))
theorem Here.evE (H:Here C R G st a w p) {xs:List Operand} (hs:Slots C R G st a xs) {x:Operand} (hx:x∈xs) {y:SV} (h:Den.ev C st p x=y):VRel R G st.h y (a.eval x):=h ▸ H.ev hs hx

theorem jcr {x:Operand} (H:Here C R G st a w p) (hs:Slots C R G st a [x]) (ho:o.op=.move x∨o.op=.assign x):Does C R G st a w o (ev C st p x):=by
 refine ⟨a.eval x,?_,H.ev hs (by simp)⟩
 rcases ho with ho | ho<;>simp [execOp,ho]

theorem jex {t:Nat} {x y:Operand} {bx by_ bz:Bool} (H:Here C R G st a w p) (hs:Slots C R G st a [.tmp t,x,y]) (ho:o.op=.pick (.tmp t) x y)
  (h1:gt C st p t=.d (.b bx)) (h2:ev C st (p++[(t,true)]) x=.d (.b by_)) (h3:ev C st (p++[(t,false)]) y=.d (.b bz)) :
  Does C R G st a w o (.d (.b (bif bx then by_ else bz))):=by
 have hc:a.eval (.tmp t)=.bool bx:=jkc (h1 ▸ jpg H.good (hs t (by simp)))
 cases bx with
 | true =>
  have hg:=jqh H.l H.p h1
  have:a.eval x=.bool by_:=jkc (h2 ▸ jqg hg (fun u hu=>hs u (by simp [hu])))
  exact ⟨.bool by_,by simp [execOp,ho,hc,asBool,this],Rep.b _⟩
 | false =>
  have hg:=jqh H.l H.p h1
  have:a.eval y=.bool bz:=jkc (h3 ▸ jqg hg (fun u hu=>hs u (by simp [hu])))
  exact ⟨.bool bz,by simp [execOp,ho,hc,asBool,this],Rep.b _⟩

theorem jaw {t:Nat} {x y:Operand} {by_:Bool} (H:Here C R G st a w p) (hs:Slots C R G st a [.tmp t,x,y]) (ho:o.op=.pick (.tmp t) x y)
  (h1:gt C st p t=.d (.b true)) (h2:ev C st (p++[(t,true)]) x=.d (.b by_)):Does C R G st a w o (.d (.b by_)):=by
 have hc:a.eval (.tmp t)=.bool true:=jkc (h1 ▸ jpg H.good (hs t (by simp)))
 have hg:=jqh H.l H.p h1
 have:a.eval x=.bool by_:=jkc (h2 ▸ jqg hg (fun u hu=>hs u (by simp [hu])))
 exact ⟨.bool by_,by simp [execOp,ho,hc,asBool,this],Rep.b _⟩
theorem jiw {t:Nat} {x y:Operand} {bz:Bool} (H:Here C R G st a w p) (hs:Slots C R G st a [.tmp t,x,y]) (ho:o.op=.pick (.tmp t) x y)
  (h1:gt C st p t=.d (.b false)) (h3:ev C st (p++[(t,false)]) y=.d (.b bz)):Does C R G st a w o (.d (.b bz)):=by
 have hc:a.eval (.tmp t)=.bool false:=jkc (h1 ▸ jpg H.good (hs t (by simp)))
 have hg:=jqh H.l H.p h1
 have:a.eval y=.bool bz:=jkc (h3 ▸ jqg hg (fun u hu=>hs u (by simp [hu])))
 exact ⟨.bool bz,by simp [execOp,ho,hc,asBool,this],Rep.b _⟩

theorem jmf {x:Operand} (H:Here C R G st a w p) (hs:Slots C R G st a [x]) (ho:o.op=.nilCheck x)
  (h:(∃n q,ev C st p x=.ptr n q)∨(∃n q,ev C st p x=.pv n q)∨(∃n i q,ev C st p x=.rp n i q)):Does C R G st a w o (ev C st p x):=by
 have hv:=H.ev hs (x:=x) (by simp)
 have:∃b,a.eval x=.pointer (some b):=by
  rcases h with ⟨n,q,h⟩ | ⟨n,q,h⟩ | ⟨n,i,q,h⟩<;>rw [h] at hv
  ·exact ⟨_,hv.2⟩
  ·obtain ⟨g,o,h1,_⟩:=hv;exact ⟨_,h1⟩
  ·obtain ⟨_,e,sz,xs,_,g,o,len,cap,_,h2⟩:=hv;exact ⟨_,h2⟩
 obtain ⟨b,hb⟩:=this
 exact ⟨_,by simp [execOp,ho,hb],hb ▸ hv⟩

def dv:D→Value | .b x=>.bool x | .i k n=>.int k n | .s x=>.string x | .l _=>undef
theorem jvw {w:World} {T:Nat→Prop}:∀{d:D},isSc d=true→Rep w T d (dv d)
 | .b _,_=>.b _
 | .i _ _,_=>.i _ _
 | .s _,_=>.s _
theorem jaz {P:Program} {op:BinOp} {k:IntKind} {x y:Int} {d:D} (hsh:isShift op=false) (h:binI op k x y=some (true,d)) (t:TypeId):(binOp op t (.int k x) (.int k y)).run P w=.ok (dv d) w∧isSc d=true:=by
 cases op<;>simp [binI,isShift] at h hsh
 all_goals (first | (obtain ⟨hy,rfl⟩:=h) | (subst h))
 all_goals refine ⟨?_,rfl⟩
 all_goals first
  | (simp only [binOp,if_neg (show ¬ (k≠k) by simp),Op.intArith,Op.intCmp,Op.intBits,Sem.run_pure];rfl)
  | (simp only [binOp,if_neg (show ¬ (k≠k) by simp),Op.intDiv,if_neg hy,Sem.run_pure];rfl)
theorem jhs {P:Program} {op:BinOp} {k k':IntKind} {x y:Int} {d:D} (h:jhn op k x y=some (true,d)) (t:TypeId):(binOp op t (.int k x) (.int k' y)).run P w=.ok (dv d) w∧isSc d=true:=by
 cases op<;>simp [jhn] at h
 all_goals obtain ⟨hy,rfl⟩:=h
 all_goals refine ⟨?_,rfl⟩
 all_goals (simp only [binOp,Op.shift,if_neg (show ¬ (y < 0) by omega),Sem.run_pure];rfl)
theorem juy {P:Program} {op:BinOp} {x y:ByteArray} {d:D} (h:binS op x y=some (true,d)) (t:TypeId):(binOp op t (.string x) (.string y)).run P w=.ok (dv d) w∧isSc d=true:=by
 cases op<;>simp only [binS,Option.some.injEq,Prod.mk.injEq,decide_eq_true_eq,true_and,reduceCtorEq] at h
 ·obtain ⟨hl,rfl⟩:=h
  refine ⟨?_,rfl⟩
  have:¬ (((x.size+y.size:Nat):Int) > IntKind.i64.max):=by
   have:lim=68719476736:=rfl
   have:IntKind.i64.max=9223372036854775807:=by decide
   omega
  simp only [binOp,Op.stringOp,if_neg this,Sem.run_pure];rfl
 all_goals subst h
 all_goals (first | exact ⟨rfl,rfl⟩)
theorem jgz {P:Program} {op:BinOp} {x y:Bool} {d:D} {t:TypeId} (ht:P.underlying t=some .bool) (h:binB op x y=some (true,d)):(binOp op t (.bool x) (.bool y)).run P w=.ok (dv d) w∧isSc d=true:=by
 have he:(Op.equal t (.bool x) (.bool y)).run P w=.ok (x==y) w:=by
  exact run_equal_bool w t x y ht
 cases op<;>simp only [binB,Option.some.injEq,Prod.mk.injEq,true_and,reduceCtorEq] at h
 all_goals subst h
 all_goals (refine ⟨?_,rfl⟩;simp [binOp,he,dv])
end Go.Den

/- More of the operations that change nothing. -/
namespace Go.Den
open Go
variable {C:Ctx} {R:Rt} {G:Gh} {st:St} {a:Act} {w:World} {p:Path} {o:Oper} {v:SV}

theorem jov {P:Program} {op:BinOp} {t:TypeId} {x y:Operand} {u v:Value} (hu:∀c,u≠.agg c) (hn:u≠.nilIface):(eqGuard op t x y u v).run P w=.ok () w:=by
 cases op<;>cases u<;>first | rfl | exact absurd rfl hn | exact absurd rfl (hu _)
theorem jpy {op:BinOp} {t ty:TypeId} {x y:Operand} {d:D} (H:Here C R G st a w p) (hs:Slots C R G st a [x,y]) (ho:o.op=.binOp op t x y ty)
  (h:bin (tyOf C.P t) op (ev C st p x) (ev C st p y)=some (true,d)):Does C R G st a w o (.d d):=by
 have hx:=H.ev hs (x:=x) (by simp)
 have hy:=H.ev hs (x:=y) (by simp)
 have key:(binOp op t (a.eval x) (a.eval y)).run C.P w=.ok (dv d) w∧isSc d=true∧(∀c,a.eval x≠.agg c)∧a.eval x≠.nilIface:=by
  generalize ev C st p x=sx at hx h
  generalize ev C st p y=sy at hy h
  unfold bin at h
  split at h
  ·rw [jpb hx,jpb hy]
   split at h
   ·rename_i h1
    obtain ⟨h2,h3⟩:=jhs h t
    exact ⟨h2,h3,by simp,by simp⟩
   ·rename_i h1
    split at h
    ·rename_i hk
     subst hk
     obtain ⟨h2,h3⟩:=jaz (by simpa using h1) h t
     exact ⟨h2,h3,by simp,by simp⟩
    ·cases h
  ·rw [jnl hx,jnl hy]
   obtain ⟨h2,h3⟩:=juy h t
   exact ⟨h2,h3,by simp,by simp⟩
  ·rw [jkc hx,jkc hy]
   split at h
   ·rename_i hk
    obtain ⟨_,_,hu,_⟩:=jkp hk
    obtain ⟨h2,h3⟩:=jgz hu h
    exact ⟨h2,h3,by simp,by simp⟩
   ·cases h
  ·have h1:a.eval x=.pointer none:=hx
   have h2:a.eval y=.pointer none:=hy
   rw [h1,h2]
   split at h
   ·rename_i e hk
    obtain ⟨_,_,hu,_⟩:=jbo hk
    have hu':C.P.underlying t=some (.pointer (C.P.pointee t)):=by simp [Program.pointee,hu]
    have he:=run_equal_pointer_nil (P:=C.P) w t none hu'
    cases op<;>simp only [binP,Option.some.injEq,Prod.mk.injEq,true_and,reduceCtorEq] at h
    all_goals subst h
    all_goals refine ⟨?_,rfl,by simp,by simp⟩
    all_goals simp [binOp,he,dv]
   ·cases h
  ·rename_i b cs
   have h2:a.eval y=.pointer none:=hy
   split at h
   ·rename_i e hk
    obtain ⟨_,_,hu,_⟩:=jbo hk
    have hu':C.P.underlying t=some (.pointer (C.P.pointee t)):=by simp [Program.pointee,hu]
    cases b with
    | true =>
     obtain ⟨g,o',h1,_⟩:=hx.1 rfl
     have h1:a.eval x=.pointer (some ⟨g,o',none⟩):=by simpa using h1
     have he:=run_equal_pointer_nil (P:=C.P) w t (some ⟨g,o',none⟩) hu'
     rw [h1,h2]
     cases op<;>simp only [binP,Option.some.injEq,Prod.mk.injEq,true_and,reduceCtorEq] at h
     all_goals subst h
     all_goals refine ⟨?_,rfl,by simp,by simp⟩
     all_goals simp [binOp,he,dv]
    | false =>
     have h1:=hx.2 rfl
     have he:=run_equal_pointer_nil (P:=C.P) w t none hu'
     rw [h1,h2]
     cases op<;>simp only [binP,Option.some.injEq,Prod.mk.injEq,true_and,reduceCtorEq] at h
     all_goals subst h
     all_goals refine ⟨?_,rfl,by simp,by simp⟩
     all_goals simp [binOp,he,dv]
   ·cases h
  ·rename_i hnot
   have h2:a.eval y=.pointer none:=hy
   split at h
   ·rename_i hp
    have h1:∃b,a.eval x=.pointer (some b):=by
     cases sx<;>simp [isPtr] at hp
     ·exact ⟨_,hx.2⟩
     ·obtain ⟨g,o,h1,_⟩:=hx;exact ⟨_,h1⟩
     ·obtain ⟨_,e,sz,xs,_,g,o,len,cap,_,h2⟩:=hx;exact ⟨_,h2⟩
    obtain ⟨b,h1⟩:=h1
    rw [h1,h2]
    split at h
    ·rename_i e hk
     obtain ⟨_,_,hu,_⟩:=jbo hk
     have hu':C.P.underlying t=some (.pointer (C.P.pointee t)):=by simp [Program.pointee,hu]
     have he:=run_equal_pointer_nil (P:=C.P) w t (some b) hu'
     cases op<;>simp only [binP,Option.some.injEq,Prod.mk.injEq,true_and,reduceCtorEq] at h
     all_goals subst h
     all_goals refine ⟨?_,rfl,by simp,by simp⟩
     all_goals simp [binOp,he,dv]
    ·cases h
   ·cases h
  ·cases h
 obtain ⟨h1,h2,h3,h4⟩:=key
 exact ⟨dv d,by simp [execOp,ho,jov h3 h4,h1],jvw h2⟩

theorem jty {t:TypeId} {x:Operand} {b:Bool} (H:Here C R G st a w p) (hs:Slots C R G st a [x]) (ho:o.op=.unOp .not t x) (h:ev C st p x=.d (.b b)):Does C R G st a w o (.d (.b (!b))) :=
 ⟨.bool (!b),by simp [execOp,ho,jkc (H.evE hs (by simp) h),Op.unary],Rep.b _⟩
theorem jtz {t:TypeId} {x:Operand} {k:IntKind} {n:Int} (H:Here C R G st a w p) (hs:Slots C R G st a [x]) (ho:o.op=.unOp .neg t x) (h:ev C st p x=.d (.i k n)):Does C R G st a w o (.d (.i k (k.wrap (-n)))) :=
 ⟨.int k (k.wrap (-n)),by simp [execOp,ho,jpb (H.evE hs (by simp) h),Op.unary,Op.intArith],Rep.i _ _⟩
theorem jkx {s d:TypeId} {x:Operand} {k k1 k2:IntKind} {n:Int} (H:Here C R G st a w p) (hs:Slots C R G st a [x]) (ho:o.op=.convert s d x) (h1:tyOf C.P s=.int k1) (h2:tyOf C.P d=.int k) (h:ev C st p x=.d (.i k2 n)):Does C R G st a w o (.d (.i k (k.wrap n))):=by
 obtain ⟨_,_,hu1,_⟩:=jkk h1
 obtain ⟨_,_,hu2,_⟩:=jkk h2
 exact ⟨.int k (k.wrap n),by simp [execOp,ho,jpb (H.evE hs (by simp) h),convert,underlying,hu1,hu2,Conv.intToInt],Rep.i _ _⟩

theorem jcn {P:Program}:∀{F:List Field} {fs:List (Nat × Nat)},fsOf P F=some fs→∀(j:Nat) f,nth? fs j=some f→∃fl i,F[j]? = some fl∧P.info? fl.type=some i∧f.1=fl.offset∧f.2=i.size∧i.size≠0
 | [],fs,h,j,f,hj=>by simp [fsOf] at h;subst h;simp [nth?] at hj
 | fl :: F,fs,h,j,f,hj=>by
  simp only [fsOf] at h
  split at h
  ·rename_i i r h1 h2
   split at h
   ·cases h
   ·rename_i h0
    cases h
    cases j with
    | zero=>simp [nth?] at hj;subst hj;exact ⟨fl,i,rfl,h1,rfl,rfl,h0⟩
    | succ j=>simp only [nth?] at hj;obtain ⟨fl',i',h3,h4⟩:=jcn h2 j f hj;exact ⟨fl',i',by simpa using h3,h4⟩
  ·cases h
theorem jbi {P:Program} {t:TypeId} {f off:Nat} {g o:Nat} (h:fieldOff (tyOf P t) f=some off):(Instr.fieldAt t (.pointer (some ⟨g,o,none⟩)) f).run P w=.ok (.pointer (some ⟨g,o+off,none⟩)) w:=by
 unfold fieldOff at h
 split at h
 ·rename_i fs zs hk
  obtain ⟨F,i,cs,h1,h2,h3,h4,h5,h6⟩:=jin hk
  simp only [Option.map_eq_some_iff] at h
  obtain ⟨e,he,rfl⟩:=h
  obtain ⟨fl,i',h7,h8,h9,h10,h11⟩:=jcn h5 f e he
  have h7':F[f]? = some fl:=by simpa using h7
  simp [Instr.fieldAt,underlying,h2,h7',Instr.sureAddr,fieldPlace,sizeOf,typeInfo,h8,h11,jmb,h9]
 ·cases h
theorem jdp {t:TypeId} {x:Operand} {f off:Nat} (H:Here C R G st a w p) (hs:Slots C R G st a [x]) (ho:o.op=.fieldAddr t x f) (h:fieldOff (tyOf C.P t) f=some off) :
  (∀n q,ev C st p x=.ptr n q→Does C R G st a w o (.ptr n (q+off)))∧(∀n q,ev C st p x=.pv n q→Does C R G st a w o (.pv n (q+off)))∧(∀n i q,ev C st p x=.rp n i q→Does C R G st a w o (.rp n i (q+off))):=by
 refine ⟨fun n q hx=>?_,fun n q hx=>?_,fun n i q hx=>?_⟩<;>have hv:=H.evE hs (x:=x) (by simp) hx
 ·obtain ⟨h1,h2⟩:=hv
  exact ⟨.pointer (some ⟨(G.base n).1,(G.base n).2+(q+off),none⟩),by simp [execOp,ho,h2,jbi h,Nat.add_assoc],h1,rfl⟩
 ·obtain ⟨g,o',h1,h2⟩:=hv
  exact ⟨.pointer (some ⟨g,o' + (q+off),none⟩),by simp [execOp,ho,h1,jbi h,Nat.add_assoc],g,o',rfl,h2⟩
 ·obtain ⟨h0,e,sz,xs,h1,g,o',len,cap,h2,h3⟩:=hv
  exact ⟨.pointer (some ⟨g,o' + i * sz+(q+off),none⟩),by simp [execOp,ho,h3,jbi h,Nat.add_assoc],h0,e,sz,xs,h1,g,o',len,cap,h2,rfl⟩

theorem nth?_eq {α:Type}:∀(l:List α) (n:Nat),nth? l n=l[n]?
 | [],n=>by simp [nth?]
 | x :: xs,0=>rfl
 | x :: xs,n+1=>by simp [nth?,nth?_eq xs n]

theorem jnt {x:Operand} {i:Nat} {vs:List SV} {r:SV} (H:Here C R G st a w p) (hs:Slots C R G st a [x]) (ho:o.op=.extract x i) (h:ev C st p x=.tup vs) (hi:nth? vs i=some r):Does C R G st a w o r:=by
 obtain ⟨us,h1,h2,h3⟩:=H.evE hs (x:=x) (by simp) h
 rw [nth?_eq] at hi
 obtain ⟨u,hu,hr⟩:=h3 i r hi
 have hnt:VRel R G st.h r u:=by
  cases r<;>first | exact hr | exact hr.elim
 exact ⟨u,by simp [execOp,ho,h1,Instr.extract,hu],hnt⟩

theorem jkw {t:TypeId} {x y:Operand} {s:ByteArray} {k:IntKind} {n:Int} (ht:tyOf C.P t=.str) (H:Here C R G st a w p) (hs:Slots C R G st a [x,y]) (ho:o.op=.index t x y) (h1:ev C st p x=.d (.s s)) (h2:ev C st p y=.d (.i k n)) (h0:0≤n) (h3:n < s.size) :
  Does C R G st a w o (.d (.i .u8 (s.get! n.toNat).toNat)):=by
 have hx:=jnl (H.evE hs (by simp) h1)
 have hy:=jpb (H.evE hs (by simp) h2)
 obtain ⟨_,_,hu,_⟩:=jii ht
 have hlt:n.toNat < s.size:=by omega
 have hg:s[n.toNat]? = some (s.get! n.toNat):=by
  rw [getElem?_pos s n.toNat hlt]
  simp [ByteArray.get!,hlt,getElem!_pos]
  rfl
 exact ⟨.int .u8 (s.get! n.toNat).toNat,by simp [execOp,ho,hx,hy,Instr.index,asIntOf,underlying,hu,h0,hg],Rep.i _ _⟩
end Go.Den
