/- What the functions come to, as plain Lean. Printed by tw.py. -/
import Derived.Test.YtbmgnecedmcneaaGreatDm9
set_option linter.unusedVariables false
namespace Go.Den.L4
open Go
noncomputable section
/-- The rounds that a loop is given: 2 ^ 64; so laid that nothing unfolds it. -/
noncomputable def KK:Nat:=Classical.choose (⟨2 ^ 64,rfl⟩:∃n:Nat,n=2 ^ 64)
def w64 (x:Int):Int:=IntKind.wrap .i64 x
noncomputable def chk (b:Bool) (x:Rs):Rs:=if b then x else none
def bitAnd (k:IntKind) (a b:Int):Int:=k.wrap (BitVec.ofInt k.bits a &&& BitVec.ofInt k.bits b).toNat
def bitOr (k:IntKind) (a b:Int):Int:=k.wrap (BitVec.ofInt k.bits a ||| BitVec.ofInt k.bits b).toNat
def bitXor (k:IntKind) (a b:Int):Int:=k.wrap (BitVec.ofInt k.bits a ^^^ BitVec.ofInt k.bits b).toNat
def stR (xs:List (List D)) (i off:Nat) (ys:List D):List (List D):=xs.modify i fun r=>r.take off++ys++r.drop (off+ys.length)
def z3:List D:=[.i .i64 0]
def z5:List D:=[.i .u8 0]
def z9:List D:=[.s ⟨#[]⟩]
def z38:List D:=[.i .i64 0,.s ⟨#[]⟩]
abbrev Rw:=List (List D)
abbrev Y5:=Rw→Rs
def t5 (l1:Rw):Rs :=
  some ([.one (.b (decide ((l1.length:Int) > (1048576:Int))))],[])
def zr5:List DV:=[.one (.b false)]
def zo5:Rw:=[]
def A5:List TA:=[.one (.l)]
abbrev Y14:=Rw→Rs
def l14o0 (l1:Rw) (q1:Int→Int→Bool→Rs):Nat→Int→Int→SV→Rs
  | 0,_,_,_=>none
  | m+1,n1,n2,v1 =>
    let y1:=(decide (n2 < (l1.length:Int)))&&(decide (n2 < (4000:Int)))
    if y1 then
     let y2:=l1.getD n2.toNat []
     chk (decide (0≤n2)&&decide (n2 < l1.length)&&isRow z5 y2) <|
     l14o0 l1 q1 m (bitAnd .i64 (w64 ((w64 ((w64 (n1 * (131:Int)))+(w64 (asI (nthD y2 0)))))+(7:Int))) (1073741823:Int)) (w64 (n2+(1:Int))) (.d (.b y1))
    else
     q1 n1 n2 y1
def t14 (l1:Rw):Rs :=
  l14o0 l1
   (fun (n1 n2:Int) (b1:Bool) =>
    some ([.ptr [.l l1,.i .i64 (0:Int),.i .i64 n1]],[])) KK (w64 ((10101:Int)+(l1.length:Int))) (0:Int) SV.undef
def zr14:List DV:=[.ptr [.l [],.i .i64 0,.i .i64 0]]
def zo14:Rw:=[]
def A14:List TA:=[.one (.l)]
abbrev Y55:=Rw→Int→Int→Rs
def t55 (l1:Rw) (n1 n2:Int):Rs :=
  let k1:=fun (n3 n4:Int) =>
   let y1:=w64 ((w64 (n2 * (6364136223846793005:Int)))+(1442695040888963407:Int))
   some ([.one (.i .i64 n3)],[[.l l1,.i .i64 n4,.i .i64 y1]])
  if decide (n1 < (l1.length:Int)) then
   let y2:=l1.getD n1.toNat []
   chk (decide (0≤n1)&&decide (n1 < l1.length)&&isRow z5 y2) <|
   let y3:=w64 ((w64 (n2 * (6364136223846793005:Int)))+(1442695040888963407:Int))
   let y4:=bitAnd .i64 (bitXor .i64 (y3.fdiv (2 ^ (min (33:Int).toNat (IntKind.bits .i64)))) (y3.fdiv (2 ^ (min (45:Int).toNat (IntKind.bits .i64))))) (255:Int)
   k1 (bitAnd .i64 (w64 (y4+(w64 (asI (nthD y2 0))))) (255:Int)) (w64 (n1+(1:Int)))
  else
   let y5:=w64 ((w64 (n2 * (6364136223846793005:Int)))+(1442695040888963407:Int))
   let y6:=bitAnd .i64 (bitXor .i64 (y5.fdiv (2 ^ (min (33:Int).toNat (IntKind.bits .i64)))) (y5.fdiv (2 ^ (min (45:Int).toNat (IntKind.bits .i64))))) (255:Int)
   k1 y6 n1
def zr55:List DV:=[.one (.i .i64 0)]
def zo55:Rw:=[[.l [],.i .i64 0,.i .i64 0]]
def A55:List TA:=[.ptr [.l,.i .i64,.i .i64]]
abbrev Y29:=Rw→Int→Int→Int→Rs
def ta29 (t55:Y55) (l1:Rw) (n1 n2 n3:Int):Rs :=
  if decide (n3≤(0:Int)) then
   some ([.one (.i .i64 (0:Int))],[[.l l1,.i .i64 n1,.i .i64 n2]])
  else
   if decide (n3≤(256:Int)) then
    let y1:=t55 l1 n1 n2
    chk (okR zr55 zo55 y1) <|
    chk (n3 != 0) <|
    some ([.one (.i .i64 ((asI (resC y1 0 0)).tmod n3))],[[.l l1,.i .i64 (asI (outC y1 0 1)),.i .i64 (asI (outC y1 0 2))]])
   else
    let y2:=t55 l1 n1 n2
    chk (okR zr55 zo55 y2) <|
    let y3:=t55 l1 (asI (outC y2 0 1)) (asI (outC y2 0 2))
    chk (okR zr55 zo55 y3) <|
    let y4:=t55 l1 (asI (outC y3 0 1)) (asI (outC y3 0 2))
    chk (okR zr55 zo55 y4) <|
    let y5:=t55 l1 (asI (outC y4 0 1)) (asI (outC y4 0 2))
    chk (okR zr55 zo55 y5) <|
    chk (n3 != 0) <|
    some ([.one (.i .i64 ((w64 ((w64 ((w64 ((w64 ((asI (resC y2 0 0)) * (16777216:Int)))+(w64 ((asI (resC y3 0 0)) * (65536:Int)))))+(w64 ((asI (resC y4 0 0)) * (256:Int)))))+(asI (resC y5 0 0)))).tmod n3))],[[.l l1,.i .i64 (asI (outC y5 0 1)),.i .i64 (asI (outC y5 0 2))]])
def t29:Y29:=ta29 t55
def zr29:List DV:=[.one (.i .i64 0)]
def zo29:Rw:=[[.l [],.i .i64 0,.i .i64 0]]
def A29:List TA:=[.ptr [.l,.i .i64,.i .i64],.one (.i .i64)]
abbrev Y28:=Rw→Int→Int→Int→Rs
def la28o0 (t29:Y29) (t55:Y55) (n1:Int) (s1:ByteArray) (n2:Int) (l1:Rw) (q1:Int→SV→Bool→SV→SV→Int→Int→Rw→Rs):Nat→Int→SV→SV→SV→SV→Int→Int→Rw→Rs
  | 0,_,_,_,_,_,_,_,_=>none
  | m+1,n3,v1,v2,v3,v4,n4,n5,l2 =>
    let y1:=decide (n3 > (0:Int))
    if y1 then
     let y2:=t55 l1 n4 n5
     chk (okR zr55 zo55 y2) <|
     let k1:=fun (n6:Int) =>
      let k2:=fun (n7:Int) =>
       let y3:=([[.i .u8 (IntKind.wrap .u8 n7)]]:Rw)
       chk ((flatR 1 y3)&&decide (l2.length+y3.length≤lim)) <|
       let y4:=n2==(1:Int)
       let y5:=n2==(2:Int)
       la28o0 t29 t55 n1 s1 n2 l1 q1 m (w64 (n3 - (1:Int))) (.d (.i .i64 n7)) (.d (.b y1)) (.d (.b y4)) (.d (.b y5)) (asI (outC y2 0 1)) (asI (outC y2 0 2)) (l2++y3)
      let y6:=n2==(2:Int)
      if y6 then
       k2 (w64 ((97:Int)+(n6.tmod (4:Int))))
      else
       k2 n6
     let y7:=n2==(1:Int)
     if y7 then
      let y8:=asI (resC y2 0 0)
      k1 (y8.tmod (2:Int))
     else
      let y9:=asI (resC y2 0 0)
      k1 y9
    else
     q1 n3 (keepV [0,576] v1) y1 (keepV [0,576] v3) (keepV [0,576] v4) n4 n5 l2
def ta28 (t29:Y29) (t55:Y55) (l1:Rw) (n1 n2 n3:Int):Rs :=
  let y1:=t29 l1 n1 n2 (4:Int)
  chk (okR zr29 zo29 y1) <|
  let y2:=t29 l1 (asI (outC y1 0 1)) (asI (outC y1 0 2)) (w64 (n3+(1:Int)))
  chk (okR zr29 zo29 y2) <|
  la28o0 t29 t55 n3 (⟨#[]⟩:ByteArray) (asI (resC y1 0 0)) l1
   (fun (n4:Int) (v1:SV) (b1:Bool) (v2 v3:SV) (n5 n6:Int) (l2:Rw) =>
    chk (isBytes l2) <|
    some ([.one (.s ⟨(bytesD l2).toArray⟩)],[[.l l1,.i .i64 n5,.i .i64 n6]])) KK (asI (resC y2 0 0)) SV.undef SV.undef SV.undef SV.undef (asI (outC y2 0 1)) (asI (outC y2 0 2)) ([]:Rw)
def t28:Y28:=ta28 t29 t55
def zr28:List DV:=[.one (.s ⟨#[]⟩)]
def zo28:Rw:=[[.l [],.i .i64 0,.i .i64 0]]
def A28:List TA:=[.ptr [.l,.i .i64,.i .i64],.one (.i .i64)]
abbrev Y17:=Rw→Int→Int→Int→Rs
def ta17 (t29:Y29) (l1:Rw) (n1 n2 n3:Int):Rs :=
  let y1:=t29 l1 n1 n2 n3
  chk (okR zr29 zo29 y1) <|
  some ([.one (.b ((asI (resC y1 0 0))==(0:Int)))],[[.l l1,.i .i64 (asI (outC y1 0 1)),.i .i64 (asI (outC y1 0 2))]])
def t17:Y17:=ta17 t29
def zr17:List DV:=[.one (.b false)]
def zo17:Rw:=[[.l [],.i .i64 0,.i .i64 0]]
def A17:List TA:=[.ptr [.l,.i .i64,.i .i64],.one (.i .i64)]
abbrev Y16:=Rw→Int→Rs
def t16 (l1:Rw) (n1:Int):Rs :=
  let y1:=w64 ((2:Int)+(w64 ((l1.length:Int).tdiv (20:Int))))
  if decide (y1 > n1) then
   some ([.one (.i .i64 n1)],[])
  else
   some ([.one (.i .i64 y1)],[])
def zr16:List DV:=[.one (.i .i64 0)]
def zo16:Rw:=[]
def A16:List TA:=[.one (.l),.one (.i .i64)]
abbrev Y38:=Rw→Int→Int→Int→Int→Int→Rs
def la38o0 (t17:Y17) (t28:Y28) (t29:Y29) (n1 n2:Int) (l1:Rw) (q1:Int→Int→Bool→Bool→Bool→Int→Int→Rw→Rs) (q2:Int→Int→Bool→SV→SV→Int→Int→Rw→Rs):Nat→Int→Int→SV→SV→SV→Int→Int→Rw→Rs
  | 0,_,_,_,_,_,_,_,_=>none
  | m+1,n3,n4,v1,v2,v3,n5,n6,l2 =>
    let y1:=decide (n4 > (0:Int))
    if y1 then
     let y2:=decide (n3 < (1:Int))
     let y3:=decide (n3 < n2)
     if (!y2)&&y3 then
      let y4:=t17 l1 n5 n6 (3:Int)
      chk (okR zr17 zo17 y4) <|
      let k1:=fun (n7:Int) =>
       let y5:=decide (n7 > n2)
       if y5 then
        let y6:=y2||(y3&&(asB (resC y4 0 0)))
        let y7:=asI (outC y4 0 1)
        let y8:=asI (outC y4 0 2)
        q1 n7 n4 y1 y6 y5 y7 y8 l2
       else
        let y9:=asI (outC y4 0 1)
        let y10:=asI (outC y4 0 2)
        let y11:=t28 l1 y9 y10 (8:Int)
        chk (okR zr28 zo28 y11) <|
        let y12:=([[.i .i64 n7,.s (asS (resC y11 0 0))]]:Rw)
        chk ((flatR 2 y12)&&decide (l2.length+y12.length≤lim)) <|
        let y13:=y2||(y3&&(asB (resC y4 0 0)))
        la38o0 t17 t28 t29 n1 n2 l1 q1 q2 m n7 (w64 (n4 - (1:Int))) (.d (.b y1)) (.d (.b y13)) (.d (.b y5)) (asI (outC y11 0 1)) (asI (outC y11 0 2)) (l2++y12)
      let y14:=y2||(y3&&(asB (resC y4 0 0)))
      if y14 then
       k1 (w64 (n3+(1:Int)))
      else
       k1 n3
     else
      chk ((!y3)||!(!y2)) <|
      let k2:=fun (n8:Int) =>
       let y15:=decide (n8 > n2)
       if y15 then
        let y16:=y2&&true
        q1 n8 n4 y1 y16 y15 n5 n6 l2
       else
        let y17:=t28 l1 n5 n6 (8:Int)
        chk (okR zr28 zo28 y17) <|
        let y18:=([[.i .i64 n8,.s (asS (resC y17 0 0))]]:Rw)
        chk ((flatR 2 y18)&&decide (l2.length+y18.length≤lim)) <|
        let y19:=y2&&true
        la38o0 t17 t28 t29 n1 n2 l1 q1 q2 m n8 (w64 (n4 - (1:Int))) (.d (.b y1)) (.d (.b y19)) (.d (.b y15)) (asI (outC y17 0 1)) (asI (outC y17 0 2)) (l2++y18)
      let y20:=y2&&true
      if y20 then
       k2 (w64 (n3+(1:Int)))
      else
       k2 n3
    else
     q2 n3 n4 y1 (keepV [0,704] v2) (keepV [0,704] v3) n5 n6 l2
def ta38 (t17:Y17) (t28:Y28) (t29:Y29) (l1:Rw) (n1 n2 n3 n4 n5:Int):Rs :=
  let y1:=t29 l1 n1 n2 (w64 (n3+(1:Int)))
  chk (okR zr29 zo29 y1) <|
  la38o0 t17 t28 t29 n3 n5 l1
   (fun (n6 n7:Int) (b1 b2 b3:Bool) (n8 n9:Int) (l2:Rw) =>
    some ([.one (.l l2)],[[.l l1,.i .i64 n8,.i .i64 n9]]))
   (fun (n10 n11:Int) (b4:Bool) (v1 v2:SV) (n12 n13:Int) (l3:Rw) =>
    some ([.one (.l l3)],[[.l l1,.i .i64 n12,.i .i64 n13]])) KK n4 (asI (resC y1 0 0)) SV.undef SV.undef SV.undef (asI (outC y1 0 1)) (asI (outC y1 0 2)) ([]:Rw)
def t38:Y38:=ta38 t17 t28 t29
def zr38:List DV:=[.one (.l [])]
def zo38:Rw:=[[.l [],.i .i64 0,.i .i64 0]]
def A38:List TA:=[.ptr [.l,.i .i64,.i .i64],.one (.i .i64),.one (.i .i64),.one (.i .i64)]
abbrev Y62:=Rw→Int→Int→Rs
def la62o3 (t17:Y17) (t28:Y28) (t29:Y29) (t38:Y38) (n1:Int) (b1 b2 b3:Bool) (l1:Rw) (n2 n3 n4 n5 n6 n7:Int) (s1:ByteArray) (n8 n9 n10 n11:Int) (s2:ByteArray) (q1:Bool→Rw→Rs):Nat→SV→Rw→Rs
  | 0,_,_=>none
  | m+1,v1,l2 =>
    let y1:=decide ((l2.length:Int) < n1)
    if y1 then
     let y2:=([[.i .i64 n8,.s (⟨#[]⟩:ByteArray)]]:Rw)
     chk ((flatR 2 y2)&&decide (l2.length+y2.length≤lim)) <|
     la62o3 t17 t28 t29 t38 n1 b1 b2 b3 l1 n2 n3 n4 n5 n6 n7 s1 n8 n9 n10 n11 s2 q1 m (.d (.b y1)) (l2++y2)
    else
     q1 y1 l2
def ta62 (t17:Y17) (t28:Y28) (t29:Y29) (t38:Y38) (l1:Rw) (n1 n2:Int):Rs :=
  let y1:=t29 l1 n1 n2 (8:Int)
  chk (okR zr29 zo29 y1) <|
  let y2:=t29 l1 (asI (outC y1 0 1)) (asI (outC y1 0 2)) (6:Int)
  chk (okR zr29 zo29 y2) <|
  let y3:=asI (resC y1 0 0)
  let y4:=decide (y3 > (0:Int))
  if y4 then
   let y5:=asI (outC y2 0 1)
   let y6:=asI (outC y2 0 2)
   let y7:=t17 l1 y5 y6 (2:Int)
   chk (okR zr17 zo17 y7) <|
   let k1:=fun (n3 n4 n5 n6:Int) (s1:ByteArray) =>
    let y8:=t38 l1 n3 n4 (6:Int) n6 y3
    chk (okR zr38 zo38 y8) <|
    let y9:=decide (y3 > (0:Int))
    if y9 then
     let y10:=asI (outC y8 0 1)
     let y11:=asI (outC y8 0 2)
     let y12:=t17 l1 y10 y11 (25:Int)
     chk (okR zr17 zo17 y12) <|
     let k2:=fun (n7 n8 n9 n10:Int) (s2:ByteArray) =>
      let y13:=decide (y3 > (0:Int))
      if y13 then
       let y14:=t17 l1 n7 n8 (25:Int)
       chk (okR zr17 zo17 y14) <|
       let y15:=y13&&(asB (resC y14 0 0))
       if y15 then
        let y16:=asI (outC y14 0 1)
        let y17:=asI (outC y14 0 2)
        let y18:=t29 l1 y16 y17 (2:Int)
        chk (okR zr29 zo29 y18) <|
        let y19:=y4&&(asB (resC y7 0 0))
        let y20:=y9&&(asB (resC y12 0 0))
        let y21:=asI (outC y18 0 1)
        let y22:=asI (outC y18 0 2)
        let y23:=w64 ((asI (resC y2 0 0)) - (1:Int))
        let y24:=asL (resC y8 0 0)
        la62o3 t17 t28 t29 t38 (w64 ((60:Int)+(asI (resC y18 0 0)))) y19 y20 y15 l1 y21 y22 (0:Int) (0:Int) (0:Int) (0:Int) (⟨#[]⟩:ByteArray) y3 y23 n9 n10 s2
         (fun (b1:Bool) (l2:Rw) =>
          some ([.agg [.i .i64 y3,.i .i64 y23,.i .i64 n9,.i .i64 n10,.s s2,.l l2]],[[.l l1,.i .i64 y21,.i .i64 y22]])) KK SV.undef y24
       else
        let y25:=w64 ((asI (resC y2 0 0)) - (1:Int))
        let y26:=asL (resC y8 0 0)
        let y27:=asI (outC y14 0 1)
        let y28:=asI (outC y14 0 2)
        some ([.agg [.i .i64 y3,.i .i64 y25,.i .i64 n9,.i .i64 n10,.s s2,.l y26]],[[.l l1,.i .i64 y27,.i .i64 y28]])
      else
       chk (!y13) <|
       let y29:=w64 ((asI (resC y2 0 0)) - (1:Int))
       let y30:=asL (resC y8 0 0)
       some ([.agg [.i .i64 y3,.i .i64 y29,.i .i64 n9,.i .i64 n10,.s s2,.l y30]],[[.l l1,.i .i64 n7,.i .i64 n8]])
     let y31:=y9&&(asB (resC y12 0 0))
     if y31 then
      let y32:=asI (outC y12 0 1)
      let y33:=asI (outC y12 0 2)
      let y34:=t29 l1 y32 y33 (2:Int)
      chk (okR zr29 zo29 y34) <|
      let y35:=asL (resC y8 0 0)
      k2 (asI (outC y34 0 1)) (asI (outC y34 0 2)) (w64 ((w64 ((100000:Int) - (y35.length:Int)))+(asI (resC y34 0 0)))) (1:Int) (⟨#[]⟩:ByteArray)
     else
      let y36:=asI (outC y12 0 1)
      let y37:=asI (outC y12 0 2)
      k2 y36 y37 n5 n6 s1
    else
     chk (!y9) <|
     let y38:=decide (y3 > (0:Int))
     if y38 then
      let y39:=asI (outC y8 0 1)
      let y40:=asI (outC y8 0 2)
      let y41:=t17 l1 y39 y40 (25:Int)
      chk (okR zr17 zo17 y41) <|
      let y42:=y38&&(asB (resC y41 0 0))
      if y42 then
       let y43:=asI (outC y41 0 1)
       let y44:=asI (outC y41 0 2)
       let y45:=t29 l1 y43 y44 (2:Int)
       chk (okR zr29 zo29 y45) <|
       let y46:=y4&&(asB (resC y7 0 0))
       let y47:=asI (outC y45 0 1)
       let y48:=asI (outC y45 0 2)
       let y49:=w64 ((asI (resC y2 0 0)) - (1:Int))
       let y50:=asL (resC y8 0 0)
       la62o3 t17 t28 t29 t38 (w64 ((60:Int)+(asI (resC y45 0 0)))) y46 false y42 l1 y47 y48 (0:Int) (0:Int) (0:Int) (0:Int) (⟨#[]⟩:ByteArray) y3 y49 n5 n6 s1
        (fun (b2:Bool) (l3:Rw) =>
         some ([.agg [.i .i64 y3,.i .i64 y49,.i .i64 n5,.i .i64 n6,.s s1,.l l3]],[[.l l1,.i .i64 y47,.i .i64 y48]])) KK SV.undef y50
      else
       let y51:=w64 ((asI (resC y2 0 0)) - (1:Int))
       let y52:=asL (resC y8 0 0)
       let y53:=asI (outC y41 0 1)
       let y54:=asI (outC y41 0 2)
       some ([.agg [.i .i64 y3,.i .i64 y51,.i .i64 n5,.i .i64 n6,.s s1,.l y52]],[[.l l1,.i .i64 y53,.i .i64 y54]])
     else
      chk (!y38) <|
      let y55:=w64 ((asI (resC y2 0 0)) - (1:Int))
      let y56:=asL (resC y8 0 0)
      let y57:=asI (outC y8 0 1)
      let y58:=asI (outC y8 0 2)
      some ([.agg [.i .i64 y3,.i .i64 y55,.i .i64 n5,.i .i64 n6,.s s1,.l y56]],[[.l l1,.i .i64 y57,.i .i64 y58]])
   let y59:=y4&&(asB (resC y7 0 0))
   if y59 then
    let y60:=asI (outC y7 0 1)
    let y61:=asI (outC y7 0 2)
    let y62:=t29 l1 y60 y61 (9:Int)
    chk (okR zr29 zo29 y62) <|
    let y63:=t29 l1 (asI (outC y62 0 1)) (asI (outC y62 0 2)) y3
    chk (okR zr29 zo29 y63) <|
    let y64:=t28 l1 (asI (outC y63 0 1)) (asI (outC y63 0 2)) (12:Int)
    chk (okR zr28 zo28 y64) <|
    k1 (asI (outC y64 0 1)) (asI (outC y64 0 2)) (w64 ((1:Int)+(asI (resC y62 0 0)))) (w64 ((1:Int)+(asI (resC y63 0 0)))) (asS (resC y64 0 0))
   else
    let y65:=asI (outC y7 0 1)
    let y66:=asI (outC y7 0 2)
    k1 y65 y66 (0:Int) (0:Int) (⟨#[]⟩:ByteArray)
  else
   chk (!y4) <|
   let y67:=asI (outC y2 0 1)
   let y68:=asI (outC y2 0 2)
   let y69:=t38 l1 y67 y68 (6:Int) (0:Int) y3
   chk (okR zr38 zo38 y69) <|
   let y70:=decide (y3 > (0:Int))
   if y70 then
    let y71:=asI (outC y69 0 1)
    let y72:=asI (outC y69 0 2)
    let y73:=t17 l1 y71 y72 (25:Int)
    chk (okR zr17 zo17 y73) <|
    let k3:=fun (n11 n12 n13 n14:Int) =>
     let y74:=decide (y3 > (0:Int))
     if y74 then
      let y75:=t17 l1 n11 n12 (25:Int)
      chk (okR zr17 zo17 y75) <|
      let y76:=y74&&(asB (resC y75 0 0))
      if y76 then
       let y77:=asI (outC y75 0 1)
       let y78:=asI (outC y75 0 2)
       let y79:=t29 l1 y77 y78 (2:Int)
       chk (okR zr29 zo29 y79) <|
       let y80:=y70&&(asB (resC y73 0 0))
       let y81:=asI (outC y79 0 1)
       let y82:=asI (outC y79 0 2)
       let y83:=w64 ((asI (resC y2 0 0)) - (1:Int))
       let y84:=asL (resC y69 0 0)
       la62o3 t17 t28 t29 t38 (w64 ((60:Int)+(asI (resC y79 0 0)))) false y80 y76 l1 y81 y82 (0:Int) (0:Int) (0:Int) (0:Int) (⟨#[]⟩:ByteArray) y3 y83 n13 n14 (⟨#[]⟩:ByteArray)
        (fun (b3:Bool) (l4:Rw) =>
         some ([.agg [.i .i64 y3,.i .i64 y83,.i .i64 n13,.i .i64 n14,.s (⟨#[]⟩:ByteArray),.l l4]],[[.l l1,.i .i64 y81,.i .i64 y82]])) KK SV.undef y84
      else
       let y85:=w64 ((asI (resC y2 0 0)) - (1:Int))
       let y86:=asL (resC y69 0 0)
       let y87:=asI (outC y75 0 1)
       let y88:=asI (outC y75 0 2)
       some ([.agg [.i .i64 y3,.i .i64 y85,.i .i64 n13,.i .i64 n14,.s (⟨#[]⟩:ByteArray),.l y86]],[[.l l1,.i .i64 y87,.i .i64 y88]])
     else
      chk (!y74) <|
      let y89:=w64 ((asI (resC y2 0 0)) - (1:Int))
      let y90:=asL (resC y69 0 0)
      some ([.agg [.i .i64 y3,.i .i64 y89,.i .i64 n13,.i .i64 n14,.s (⟨#[]⟩:ByteArray),.l y90]],[[.l l1,.i .i64 n11,.i .i64 n12]])
    let y91:=y70&&(asB (resC y73 0 0))
    if y91 then
     let y92:=asI (outC y73 0 1)
     let y93:=asI (outC y73 0 2)
     let y94:=t29 l1 y92 y93 (2:Int)
     chk (okR zr29 zo29 y94) <|
     let y95:=asL (resC y69 0 0)
     k3 (asI (outC y94 0 1)) (asI (outC y94 0 2)) (w64 ((w64 ((100000:Int) - (y95.length:Int)))+(asI (resC y94 0 0)))) (1:Int)
    else
     let y96:=asI (outC y73 0 1)
     let y97:=asI (outC y73 0 2)
     k3 y96 y97 (0:Int) (0:Int)
   else
    chk (!y70) <|
    let y98:=decide (y3 > (0:Int))
    if y98 then
     let y99:=asI (outC y69 0 1)
     let y100:=asI (outC y69 0 2)
     let y101:=t17 l1 y99 y100 (25:Int)
     chk (okR zr17 zo17 y101) <|
     let y102:=y98&&(asB (resC y101 0 0))
     if y102 then
      let y103:=asI (outC y101 0 1)
      let y104:=asI (outC y101 0 2)
      let y105:=t29 l1 y103 y104 (2:Int)
      chk (okR zr29 zo29 y105) <|
      let y106:=asI (outC y105 0 1)
      let y107:=asI (outC y105 0 2)
      let y108:=w64 ((asI (resC y2 0 0)) - (1:Int))
      let y109:=asL (resC y69 0 0)
      la62o3 t17 t28 t29 t38 (w64 ((60:Int)+(asI (resC y105 0 0)))) false false y102 l1 y106 y107 (0:Int) (0:Int) (0:Int) (0:Int) (⟨#[]⟩:ByteArray) y3 y108 (0:Int) (0:Int) (⟨#[]⟩:ByteArray)
       (fun (b4:Bool) (l5:Rw) =>
        some ([.agg [.i .i64 y3,.i .i64 y108,.i .i64 (0:Int),.i .i64 (0:Int),.s (⟨#[]⟩:ByteArray),.l l5]],[[.l l1,.i .i64 y106,.i .i64 y107]])) KK SV.undef y109
     else
      let y110:=w64 ((asI (resC y2 0 0)) - (1:Int))
      let y111:=asL (resC y69 0 0)
      let y112:=asI (outC y101 0 1)
      let y113:=asI (outC y101 0 2)
      some ([.agg [.i .i64 y3,.i .i64 y110,.i .i64 (0:Int),.i .i64 (0:Int),.s (⟨#[]⟩:ByteArray),.l y111]],[[.l l1,.i .i64 y112,.i .i64 y113]])
    else
     chk (!y98) <|
     let y114:=w64 ((asI (resC y2 0 0)) - (1:Int))
     let y115:=asL (resC y69 0 0)
     let y116:=asI (outC y69 0 1)
     let y117:=asI (outC y69 0 2)
     some ([.agg [.i .i64 y3,.i .i64 y114,.i .i64 (0:Int),.i .i64 (0:Int),.s (⟨#[]⟩:ByteArray),.l y115]],[[.l l1,.i .i64 y116,.i .i64 y117]])
def t62:Y62:=ta62 t17 t28 t29 t38
def zr62:List DV:=[.agg [.i .i64 0,.i .i64 0,.i .i64 0,.i .i64 0,.s ⟨#[]⟩,.l []]]
def zo62:Rw:=[[.l [],.i .i64 0,.i .i64 0]]
def A62:List TA:=[.ptr [.l,.i .i64,.i .i64]]
abbrev Y35:=Rw→Int→Int→Rw→Rs
def ta35 (t29:Y29) (l1:Rw) (n1 n2:Int) (l2:Rw):Rs :=
  let y1:=t29 l1 n1 n2 (l2.length:Int)
  chk (okR zr29 zo29 y1) <|
  let y2:=asI (resC y1 0 0)
  let y3:=l2.getD y2.toNat []
  chk (decide (0≤y2)&&decide (y2 < l2.length)&&isRow z3 y3) <|
  some ([.one (.i .i64 (asI (nthD y3 0)))],[[.l l1,.i .i64 (asI (outC y1 0 1)),.i .i64 (asI (outC y1 0 2))]])
def t35:Y35:=ta35 t29
def zr35:List DV:=[.one (.i .i64 0)]
def zo35:Rw:=[[.l [],.i .i64 0,.i .i64 0]]
def A35:List TA:=[.ptr [.l,.i .i64,.i .i64],.one (.l)]
abbrev Y20:=Int→Int→Int→Rs
def t20 (n1 n2 n3:Int):Rs :=
  some ([.one (.b ((decide (n1 ≥ n2))&&(decide (n1≤n3))))],[])
def zr20:List DV:=[.one (.b false)]
def zo20:Rw:=[]
def A20:List TA:=[.one (.i .i64),.one (.i .i64),.one (.i .i64)]
abbrev Y39:=Int→Int→Rs
def ta39 (t20:Y20) (n1 n2:Int):Rs :=
  if n1==(0:Int) then
   some ([.one (.b (n2==(0:Int)))],[])
  else
   let y1:=t20 n1 (1:Int) (100000:Int)
   chk (okR zr20 zo20 y1) <|
   let y2:=t20 n2 (1:Int) (100000:Int)
   let y3:=asB (resC y1 0 0)
   chk ((okR zr20 zo20 y2)||!y3) <|
   some ([.one (.b (y3&&(asB (resC y2 0 0))))],[])
def t39:Y39:=ta39 t20
def zr39:List DV:=[.one (.b false)]
def zo39:Rw:=[]
def A39:List TA:=[.one (.i .i64),.one (.i .i64)]
abbrev Y21:=Int→Int→Int→Int→ByteArray→Rw→Rs
def la21o1 (t20:Y20) (t39:Y39) (n1 n2 n3 n4:Int) (s1:ByteArray) (l1:Rw) (b1 b2:Bool) (n5 n6 n7 n8:Int) (s2:ByteArray) (l2:Rw) (q1:Int→Int→Bool→Bool→Int→ByteArray→Rs) (q2:Int→Int→Bool→SV→Rs):Nat→Int→Int→SV→SV→Rs
  | 0,_,_,_,_=>none
  | m+1,n9,n10,v1,v2 =>
    let y1:=decide (n10 < (l2.length:Int))
    if y1 then
     let y2:=l2.getD n10.toNat []
     chk (decide (0≤n10)&&decide (n10 < l2.length)&&isRow z38 y2) <|
     let y3:=asI (nthD y2 0)
     let y4:=asS (nthD y2 1)
     let y5:=(((decide (y3 < (1:Int)))||(decide (y3 < n9)))||(decide (y3 > n5)))||(decide ((y4.size:Int) > (1600:Int)))
     if y5 then
      q1 n9 n10 y1 y5 y3 y4
     else
      la21o1 t20 t39 n1 n2 n3 n4 s1 l1 b1 b2 n5 n6 n7 n8 s2 l2 q1 q2 m y3 (w64 (n10+(1:Int))) (.d (.b y1)) (.d (.b y5))
    else
     q2 n9 n10 y1 (keepV [64] v2)
def ta21 (t20:Y20) (t39:Y39) (n1 n2 n3 n4:Int) (s1:ByteArray) (l1:Rw):Rs :=
  let y1:=t20 n1 (0:Int) (100000:Int)
  chk (okR zr20 zo20 y1) <|
  let y2:=t20 n2 (-1:Int) (4:Int)
  let y3:=!(asB (resC y1 0 0))
  chk ((okR zr20 zo20 y2)||!(!y3)) <|
  let y4:=y3||(!(asB (resC y2 0 0)))
  chk ((okR zr39 zo39 (t39 n3 n4))||!(!y4)) <|
  let y5:=(((((y4||(!(asB (resC (t39 n3 n4) 0 0))))||((n3==(0:Int))&&(!(s1.toList==(⟨#[]⟩:ByteArray).toList))))||(decide ((s1.size:Int) > (20000:Int))))||(decide (n4 > n1)))||(decide ((l1.length:Int) > (60:Int))))||(decide ((w64 (n3+(l1.length:Int))) > (100000:Int)))
  if y5 then
   some ([.one (.b false)],[])
  else
   la21o1 t20 t39 n1 n2 n3 n4 s1 l1 false y5 n1 n2 n3 n4 s1 l1
    (fun (n5 n6:Int) (b1 b2:Bool) (n7:Int) (s2:ByteArray) =>
     some ([.one (.b false)],[]))
    (fun (n8 n9:Int) (b3:Bool) (v1:SV) =>
     some ([.one (.b true)],[])) KK n4 (0:Int) SV.undef SV.undef
def t21:Y21:=ta21 t20 t39
def zr21:List DV:=[.one (.b false)]
def zo21:Rw:=[]
def A21:List TA:=[.agg [.i .i64,.i .i64,.i .i64,.i .i64,.s,.l]]
abbrev Y22:=Int→Int→Int→Int→Int→Int→Int→Int→Rw→Int→Rw→Rw→Rw→ByteArray→Rs
def t22 (n1 n2 n3 n4 n5 n6 n7 n8:Int) (l1:Rw) (n9:Int) (l2 l3 l4:Rw) (s1:ByteArray):Rs :=
  chk ((flatR 2 l1)&&decide (([]:Rw).length+l1.length≤lim)) <|
  let k1:=fun (n10 n11:Int) (s2:ByteArray) =>
   some ([.agg [.i .i64 n3,.i .i64 n4,.i .i64 n10,.i .i64 n11,.s s2,.l (([]:Rw)++l1)]],[])
  if n7 != (0:Int) then
   k1 n7 n8 s1
  else
   k1 (0:Int) (0:Int) (⟨#[]⟩:ByteArray)
def zr22:List DV:=[.agg [.i .i64 0,.i .i64 0,.i .i64 0,.i .i64 0,.s ⟨#[]⟩,.l []]]
def zo22:Rw:=[]
def A22:List TA:=[.agg [.i .i64,.i .i64,.i .i64,.i .i64,.i .i64,.i .i64,.i .i64,.i .i64,.l,.i .i64,.l,.l,.l],.one (.s)]
abbrev Y23:=Int→Int→Int→Int→Int→Int→Int→Int→Rw→Int→Rw→Rw→Rw→Rs
def t23 (n1 n2 n3 n4 n5 n6 n7 n8:Int) (l1:Rw) (n9:Int) (l2 l3 l4:Rw):Rs :=
  some ([.one (.i .i64 (w64 (n7+(l1.length:Int))))],[])
def zr23:List DV:=[.one (.i .i64 0)]
def zo23:Rw:=[]
def A23:List TA:=[.agg [.i .i64,.i .i64,.i .i64,.i .i64,.i .i64,.i .i64,.i .i64,.i .i64,.l,.i .i64,.l,.l,.l]]
abbrev Y24:=Rw→Int→Rs
def l24o0 (l1:Rw) (n1:Int) (b1:Bool) (q1:Int→Bool→Bool→Rs) (q2:Int→Bool→SV→Rs):Nat→Int→SV→SV→Rs
  | 0,_,_,_=>none
  | m+1,n2,v1,v2 =>
    let y1:=decide (n2 < (l1.length:Int))
    if y1 then
     let y2:=l1.getD n2.toNat []
     chk (decide (0≤n2)&&decide (n2 < l1.length)&&isRow z3 y2) <|
     let y3:=(asI (nthD y2 0))==n1
     if y3 then
      q1 n2 y1 y3
     else
      l24o0 l1 n1 b1 q1 q2 m (w64 (n2+(1:Int))) (.d (.b y1)) (.d (.b y3))
    else
     q2 n2 y1 (keepV [] v2)
def t24 (l1:Rw) (n1:Int):Rs :=
  l24o0 l1 n1 false
   (fun (n2:Int) (b1 b2:Bool) =>
    some ([.one (.b true)],[]))
   (fun (n3:Int) (b3:Bool) (v1:SV) =>
    some ([.one (.b false)],[])) KK (0:Int) SV.undef SV.undef
def zr24:List DV:=[.one (.b false)]
def zo24:Rw:=[]
def A24:List TA:=[.one (.l),.one (.i .i64)]
abbrev Y7:=Int→Int→Int→Int→Int→Int→Int→Int→Rw→Int→Rw→Rw→Rw→Rs
def la7o8 (t20:Y20) (t21:Y21) (t22:Y22) (t23:Y23) (t24:Y24) (n1 n2 n3 n4 n5 n6 n7 n8:Int) (l1:Rw) (n9:Int) (l2 l3 l4:Rw) (b1 b2:Bool) (n10:Int) (b3 b4 b5 b6:Bool) (n11 n12 n13 n14 n15 n16 n17 n18:Int) (l5:Rw) (n19:Int) (l6 l7 l8 l9:Rw) (q1:Int→Bool→Bool→Rs) (q2:Int→Bool→SV→Rs):Nat→Int→SV→SV→Rs
  | 0,_,_,_=>none
  | m+1,n20,v1,v2 =>
    let y1:=decide (n20 < n12)
    if y1 then
     let y2:=l8.getD n20.toNat []
     chk (decide (0≤n20)&&decide (n20 < l8.length)&&isRow z3 y2) <|
     let y3:=l7.getD n20.toNat []
     let y4:=decide ((asI (nthD y2 0)) < (0:Int))
     chk ((decide (0≤n20)&&decide (n20 < l7.length)&&isRow z3 y3)||!(!y4)) <|
     let y5:=l8.getD n20.toNat []
     chk ((decide (0≤n20)&&decide (n20 < l8.length)&&isRow z3 y5)||!(!y4)) <|
     let y6:=l7.getD n20.toNat []
     let y7:=y4||(decide ((asI (nthD y3 0))≤(asI (nthD y5 0))))
     chk ((decide (0≤n20)&&decide (n20 < l7.length)&&isRow z3 y6)||!(!y7)) <|
     let y8:=t23 n11 n12 n13 n14 n15 n16 n17 n18 l5 n19 l6 l7 l8
     chk ((okR zr23 zo23 y8)||!(!y7)) <|
     let y9:=y7||(decide ((asI (nthD y6 0)) > (w64 ((asI (resC y8 0 0))+(1:Int)))))
     if y9 then
      q1 n20 y1 y9
     else
      la7o8 t20 t21 t22 t23 t24 n1 n2 n3 n4 n5 n6 n7 n8 l1 n9 l2 l3 l4 b1 b2 n10 b3 b4 b5 b6 n11 n12 n13 n14 n15 n16 n17 n18 l5 n19 l6 l7 l8 l9 q1 q2 m (w64 (n20+(1:Int))) (.d (.b y1)) (.d (.b y9))
    else
     q2 n20 y1 (keepV [64,1925] v2)
def la7o3 (t20:Y20) (t21:Y21) (t22:Y22) (t23:Y23) (t24:Y24) (n1 n2 n3 n4 n5 n6 n7 n8:Int) (l1:Rw) (n9:Int) (l2 l3 l4:Rw) (b1 b2:Bool) (n10:Int) (b3 b4:Bool) (n11 n12 n13 n14 n15 n16 n17 n18:Int) (l5:Rw) (n19:Int) (l6 l7 l8 l9:Rw) (q1:Int→Bool→Bool→Rs) (q2:Int→Bool→SV→Rs):Nat→Int→SV→SV→Rs
  | 0,_,_,_=>none
  | m+1,n20,v1,v2 =>
    let y1:=decide (n20 < (l6.length:Int))
    if y1 then
     let y2:=l6.getD n20.toNat []
     chk (decide (0≤n20)&&decide (n20 < l6.length)&&isRow z3 y2) <|
     let y3:=t20 (asI (nthD y2 0)) (0:Int) (w64 (n12 - (1:Int)))
     chk (okR zr20 zo20 y3) <|
     let y4:=w64 (n20 - (1:Int))
     let y5:=l6.getD y4.toNat []
     let y6:=!(asB (resC y3 0 0))
     let y7:=!y6
     let y8:=decide (n20 > (0:Int))
     chk ((decide (0≤y4)&&decide (y4 < l6.length)&&isRow z3 y5)||!(y7&&y8)) <|
     let y9:=l6.getD n20.toNat []
     chk ((decide (0≤n20)&&decide (n20 < l6.length)&&isRow z3 y9)||!(y7&&y8)) <|
     let y10:=y6||(y8&&(decide ((asI (nthD y5 0)) ≥ (asI (nthD y9 0)))))
     if y10 then
      q1 n20 y1 y10
     else
      la7o3 t20 t21 t22 t23 t24 n1 n2 n3 n4 n5 n6 n7 n8 l1 n9 l2 l3 l4 b1 b2 n10 b3 b4 n11 n12 n13 n14 n15 n16 n17 n18 l5 n19 l6 l7 l8 l9 q1 q2 m (w64 (n20+(1:Int))) (.d (.b y1)) (.d (.b y10))
    else
     q2 n20 y1 (keepV [64,1925] v2)
def ta7 (t20:Y20) (t21:Y21) (t22:Y22) (t23:Y23) (t24:Y24) (n1 n2 n3 n4 n5 n6 n7 n8:Int) (l1:Rw) (n9:Int) (l2 l3 l4:Rw):Rs :=
  let y1:=t20 n2 (1:Int) (5:Int)
  chk (okR zr20 zo20 y1) <|
  let y2:=t20 n1 (0:Int) (w64 (n2 - (1:Int)))
  let y3:=!(asB (resC y1 0 0))
  chk ((okR zr20 zo20 y2)||!(!y3)) <|
  let y4:=(y3||(!(asB (resC y2 0 0))))||((n7==(0:Int))&&(n8 != (0:Int)))
  if !y4 then
   let y5:=t22 n1 n2 n3 n4 n5 n6 n7 n8 l1 n9 l2 l3 l4 (⟨#[]⟩:ByteArray)
   chk (okR zr22 zo22 y5) <|
   let y6:=asL (resC y5 0 5)
   let y7:=t21 (asI (resC y5 0 0)) (asI (resC y5 0 1)) (asI (resC y5 0 2)) (asI (resC y5 0 3)) (asS (resC y5 0 4)) y6
   chk ((okR zr21 zo21 y7)||!(!y4)) <|
   let y8:=t23 n1 n2 n3 n4 n5 n6 n7 n8 l1 n9 l2 l3 l4
   let y9:=(y4||(!(asB (resC y7 0 0))))||(decide (n4 ≥ n2))
   chk ((okR zr23 zo23 y8)||!(!y9)) <|
   let y10:=t20 n9 n7 (asI (resC y8 0 0))
   chk ((okR zr20 zo20 y10)||!(!y9)) <|
   let y11:=y9||(!(asB (resC y10 0 0)))
   if y11 then
    some ([.one (.b false)],[])
   else
    let y12:=n5==(1:Int)
    if y12 then
     let y13:=t20 n6 (-1:Int) (w64 (n2 - (1:Int)))
     chk (okR zr20 zo20 y13) <|
     some ([.one (.b (((((asB (resC y13 0 0))&&(n6 != n1))&&((l2.length:Int)==(0:Int)))&&((l3.length:Int)==(0:Int)))&&((l4.length:Int)==(0:Int))))],[])
    else
     let y14:=n5==(2:Int)
     if y14 then
      la7o3 t20 t21 t22 t23 t24 n1 n2 n3 n4 n5 n6 n7 n8 l1 n9 l2 l3 l4 false y11 n5 y12 y14 n1 n2 n3 n4 n5 n6 n7 n8 l1 n9 l2 l3 l4 y6
       (fun (n10:Int) (b1 b2:Bool) =>
        some ([.one (.b false)],[]))
       (fun (n11:Int) (b3:Bool) (v1:SV) =>
        let y15:=((decide (n3 ≥ (1:Int)))&&(n4==n1))&&(n6==(-1:Int))
        chk ((okR zr24 zo24 (t24 l2 n1))||!y15) <|
        some ([.one (.b ((((y15&&(asB (resC (t24 l2 n1) 0 0)))&&(decide ((w64 ((2:Int) * (l2.length:Int)))≤n2)))&&((l3.length:Int)==(0:Int)))&&((l4.length:Int)==(0:Int))))],[])) KK (0:Int) SV.undef SV.undef
     else
      let y16:=n5==(3:Int)
      if y16 then
       let y17:=l4.getD n1.toNat []
       let y18:=(((((decide (n3 < (1:Int)))||(n4 != n1))||(n6 != n1))||(decide ((l2.length:Int) > (0:Int))))||((l3.length:Int) != n2))||((l4.length:Int) != n2)
       chk ((decide (0≤n1)&&decide (n1 < l4.length)&&isRow z3 y17)||!(!y18)) <|
       let y19:=t23 n1 n2 n3 n4 n5 n6 n7 n8 l1 n9 l2 l3 l4
       chk ((okR zr23 zo23 y19)||!(!y18)) <|
       let y20:=y18||((asI (nthD y17 0)) != (asI (resC y19 0 0)))
       if y20 then
        some ([.one (.b false)],[])
       else
        la7o8 t20 t21 t22 t23 t24 n1 n2 n3 n4 n5 n6 n7 n8 l1 n9 l2 l3 l4 false y11 n5 y12 y14 y16 y20 n1 n2 n3 n4 n5 n6 n7 n8 l1 n9 l2 l3 l4 y6
         (fun (n12:Int) (b4 b5:Bool) =>
          some ([.one (.b false)],[]))
         (fun (n13:Int) (b6:Bool) (v2:SV) =>
          some ([.one (.b true)],[])) KK (0:Int) SV.undef SV.undef
      else
       some ([.one (.b false)],[])
  else
   if !y4 then
    none
   else
    if !y4 then
     none
    else
     chk (y4) <|
     let y21:=t23 n1 n2 n3 n4 n5 n6 n7 n8 l1 n9 l2 l3 l4
     chk ((okR zr23 zo23 y21)||!false) <|
     chk ((okR zr20 zo20 (t20 n9 n7 (asI (resC y21 0 0))))||!false) <|
     some ([.one (.b false)],[])
def t7:Y7:=ta7 t20 t21 t22 t23 t24
def zr7:List DV:=[.one (.b false)]
def zo7:Rw:=[]
def A7:List TA:=[.agg [.i .i64,.i .i64,.i .i64,.i .i64,.i .i64,.i .i64,.i .i64,.i .i64,.l,.i .i64,.l,.l,.l]]
abbrev Y63:=Int→Int→Int→Int→Int→Int→ByteArray→Rw→Rs
def ta63 (t7:Y7) (t21:Y21) (n1 n2 n3 n4 n5 n6:Int) (s1:ByteArray) (l1:Rw):Rs :=
  chk ((flatR 2 l1)&&decide (([]:Rw).length+l1.length≤lim)) <|
  let y1:=t21 n3 n4 n5 n6 s1 l1
  chk (okR zr21 zo21 y1) <|
  if !(asB (resC y1 0 0)) then
   some ([.agg [.i .i64 (0:Int),.i .i64 (0:Int),.i .i64 (0:Int),.i .i64 (0:Int),.i .i64 (0:Int),.i .i64 (0:Int),.i .i64 (0:Int),.i .i64 (0:Int),.l ([]:Rw),.i .i64 (0:Int),.l ([]:Rw),.l ([]:Rw),.l ([]:Rw)],.one (.b false)],[])
  else
   let y2:=([]:Rw)++l1
   let y3:=t7 n1 n2 n3 n4 (1:Int) (-1:Int) n5 n6 y2 n5 ([]:Rw) ([]:Rw) ([]:Rw)
   chk (okR zr7 zo7 y3) <|
   if !(asB (resC y3 0 0)) then
    some ([.agg [.i .i64 (0:Int),.i .i64 (0:Int),.i .i64 (0:Int),.i .i64 (0:Int),.i .i64 (0:Int),.i .i64 (0:Int),.i .i64 (0:Int),.i .i64 (0:Int),.l ([]:Rw),.i .i64 (0:Int),.l ([]:Rw),.l ([]:Rw),.l ([]:Rw)],.one (.b false)],[])
   else
    some ([.agg [.i .i64 n1,.i .i64 n2,.i .i64 n3,.i .i64 n4,.i .i64 (1:Int),.i .i64 (-1:Int),.i .i64 n5,.i .i64 n6,.l y2,.i .i64 n5,.l ([]:Rw),.l ([]:Rw),.l ([]:Rw)],.one (.b true)],[])
def t63:Y63:=ta63 t7 t21
def zr63:List DV:=[.agg [.i .i64 0,.i .i64 0,.i .i64 0,.i .i64 0,.i .i64 0,.i .i64 0,.i .i64 0,.i .i64 0,.l [],.i .i64 0,.l [],.l [],.l []],.one (.b false)]
def zo63:Rw:=[]
def A63:List TA:=[.one (.i .i64),.one (.i .i64),.agg [.i .i64,.i .i64,.i .i64,.i .i64,.s,.l]]
abbrev Y31:=Int→Int→Int→Int→Int→Int→Int→Int→Rw→Int→Rw→Rw→Rw→Rs
def t31 (n1 n2 n3 n4 n5 n6 n7 n8:Int) (l1:Rw) (n9:Int) (l2 l3 l4:Rw):Rs :=
  chk ((flatR 2 l1)&&decide (([]:Rw).length+l1.length≤lim)) <|
  chk ((flatR 1 l2)&&decide (([]:Rw).length+l2.length≤lim)) <|
  chk ((flatR 1 l3)&&decide (([]:Rw).length+l3.length≤lim)) <|
  chk ((flatR 1 l4)&&decide (([]:Rw).length+l4.length≤lim)) <|
  some ([.agg [.i .i64 n1,.i .i64 n2,.i .i64 n3,.i .i64 n4,.i .i64 n5,.i .i64 n6,.i .i64 n7,.i .i64 n8,.l (([]:Rw)++l1),.i .i64 n9,.l (([]:Rw)++l2),.l (([]:Rw)++l3),.l (([]:Rw)++l4)]],[])
def zr31:List DV:=[.agg [.i .i64 0,.i .i64 0,.i .i64 0,.i .i64 0,.i .i64 0,.i .i64 0,.i .i64 0,.i .i64 0,.l [],.i .i64 0,.l [],.l [],.l []]]
def zo31:Rw:=[]
def A31:List TA:=[.agg [.i .i64,.i .i64,.i .i64,.i .i64,.i .i64,.i .i64,.i .i64,.i .i64,.l,.i .i64,.l,.l,.l]]
abbrev Y37:=Int→Int→Int→Int→Int→Int→Int→Int→Rw→Int→Rw→Rw→Rw→Int→Rs
def t37 (n1 n2 n3 n4 n5 n6 n7 n8:Int) (l1:Rw) (n9:Int) (l2 l3 l4:Rw) (n10:Int):Rs :=
  if n10==n7 then
   some ([.one (.i .i64 n8)],[])
  else
   let y1:=w64 ((w64 (n10 - n7)) - (1:Int))
   let y2:=l1.getD y1.toNat []
   chk (decide (0≤y1)&&decide (y1 < l1.length)&&isRow z38 y2) <|
   some ([.one (.i .i64 (asI (nthD y2 0)))],[])
def zr37:List DV:=[.one (.i .i64 0)]
def zo37:Rw:=[]
def A37:List TA:=[.agg [.i .i64,.i .i64,.i .i64,.i .i64,.i .i64,.i .i64,.i .i64,.i .i64,.l,.i .i64,.l,.l,.l],.one (.i .i64)]
abbrev Y60:=Int→Int→Int→Int→Int→Int→Int→Int→Rw→Int→Rw→Rw→Rw→Rs
def la60o2 (t23:Y23) (t37:Y37) (n1 n2 n3 n4 n5 n6 n7 n8 n9 n10:Int) (b1:Bool) (n11 n12 n13 n14 n15 n16 n17 n18 n19 n20 n21 n22 n23 n24 n25 n26 n27 n28:Int) (l1 l2 l3 l4:Rw) (q1:Int→Int→Bool→SV→SV→Rs):Nat→Int→Int→SV→SV→SV→Rs
  | 0,_,_,_,_,_=>none
  | m+1,n29,n30,v1,v2,v3 =>
    let y1:=decide (n30 < n12)
    if y1 then
     chk (decide (0≤n30)&&decide (n30 < l4.length)) <|
     let y2:=l4.getD (n30.toNat) []
     chk (decide (1≤y2.length)&&isF z3 0 y2) <|
     let k1:=fun (n31:Int) =>
      let y3:=decide ((asI (nthD y2 0)) ≥ n10)
      la60o2 t23 t37 n1 n2 n3 n4 n5 n6 n7 n8 n9 n10 b1 n11 n12 n13 n14 n15 n16 n17 n18 n19 n20 n21 n22 n23 n24 n25 n26 n27 n28 l1 l2 l3 l4 q1 m n31 (w64 (n30+(1:Int))) (.d (.b y1)) (.d (.b y3)) (keepV [64,128,4105,4107,4108,4109] v3)
     let y4:=decide ((asI (nthD y2 0)) ≥ n10)
     if y4 then
      k1 (w64 (n29+(1:Int)))
     else
      k1 n29
    else
     q1 n29 n30 y1 (keepV [64,128,4105,4107,4108,4109] v2) (keepV [64,128,4105,4107,4108,4109] v3)
def la60o0 (t23:Y23) (t37:Y37) (n1 n2 n3 n4 n5 n6 n7 n8 n9 n10 n11 n12 n13 n14 n15 n16 n17 n18 n19 n20 n21 n22 n23 n24 n25 n26 n27:Int) (l1 l2 l3 l4:Rw) (q1:Int→Int→Int→Bool→Bool→SV→Bool→Rs) (q2:Int→SV→SV→Bool→SV→SV→SV→Rs):Nat→Int→SV→SV→SV→SV→SV→SV→Rs
  | 0,_,_,_,_,_,_,_=>none
  | m+1,n28,v1,v2,v3,v4,v5,v6 =>
    let y1:=decide (n28 > n18)
    if y1 then
     la60o2 t23 t37 n1 n2 n3 n4 n5 n6 n7 n8 n9 n28 y1 n10 n11 n12 n13 n14 n15 n16 n17 n18 n19 n20 n21 n22 n23 n24 n25 n26 n27 l1 l2 l3 l4
      (fun (n29 n30:Int) (b1:Bool) (v7 v8:SV) =>
       let y2:=t37 n10 n11 n12 n13 n14 n15 n16 n17 l1 n18 l2 l3 l4 n28
       chk (okR zr37 zo37 y2) <|
       let y3:=((asI (resC y2 0 0))==n12)&&(decide ((w64 ((2:Int) * n29)) > n11))
       if y3 then
        q1 n28 n29 n30 y1 b1 v7 y3
       else
        la60o0 t23 t37 n1 n2 n3 n4 n5 n6 n7 n8 n9 n10 n11 n12 n13 n14 n15 n16 n17 n18 n19 n20 n21 n22 n23 n24 n25 n26 n27 l1 l2 l3 l4 q1 q2 m (w64 (n28 - (1:Int))) (.d (.i .i64 n29)) (.d (.i .i64 n30)) (.d (.b y1)) (.d (.b b1)) (keepV [64,128,4105,4107,4108,4109] v7) (.d (.b y3))) KK (0:Int) (0:Int) v4 v5 v6
    else
     q2 n28 (keepV [64,128,4105,4107,4108,4109] v1) (keepV [64,128,4105,4107,4108,4109] v2) y1 (keepV [64,128,4105,4107,4108,4109] v4) (keepV [64,128,4105,4107,4108,4109] v5) (keepV [64,128,4105,4107,4108,4109] v6)
def ta60 (t23:Y23) (t37:Y37) (n1 n2 n3 n4 n5 n6 n7 n8:Int) (l1:Rw) (n9:Int) (l2 l3 l4:Rw):Rs :=
  let y1:=t23 n1 n2 n3 n4 n5 n6 n7 n8 l1 n9 l2 l3 l4
  chk (okR zr23 zo23 y1) <|
  la60o0 t23 t37 n1 n2 n3 n4 n5 n6 n7 n8 n9 n1 n2 n3 n4 n5 n6 n7 n8 n9 (0:Int) (0:Int) (0:Int) (0:Int) (0:Int) (0:Int) (0:Int) (0:Int) (0:Int) l1 l2 l3 l4
   (fun (n10 n11 n12:Int) (b1 b2:Bool) (v1:SV) (b3:Bool) =>
    some ([.agg [.i .i64 n1,.i .i64 n2,.i .i64 n3,.i .i64 n4,.i .i64 n5,.i .i64 n6,.i .i64 n7,.i .i64 n8,.l l1,.i .i64 n10,.l l2,.l l3,.l l4]],[]))
   (fun (n13:Int) (v2 v3:SV) (b4:Bool) (v4 v5 v6:SV) =>
    some ([.agg [.i .i64 n1,.i .i64 n2,.i .i64 n3,.i .i64 n4,.i .i64 n5,.i .i64 n6,.i .i64 n7,.i .i64 n8,.l l1,.i .i64 n9,.l l2,.l l3,.l l4]],[])) KK (asI (resC y1 0 0)) SV.undef SV.undef SV.undef SV.undef SV.undef SV.undef
def t60:Y60:=ta60 t23 t37
def zr60:List DV:=[.agg [.i .i64 0,.i .i64 0,.i .i64 0,.i .i64 0,.i .i64 0,.i .i64 0,.i .i64 0,.i .i64 0,.l [],.i .i64 0,.l [],.l [],.l []]]
def zo60:Rw:=[]
def A60:List TA:=[.agg [.i .i64,.i .i64,.i .i64,.i .i64,.i .i64,.i .i64,.i .i64,.i .i64,.l,.i .i64,.l,.l,.l]]
abbrev Y32:=Int→Int→Int→Int→Int→Int→Int→Int→Rw→Int→Rw→Rw→Rw→ByteArray→Rs
def ta32 (t23:Y23) (t60:Y60) (n1 n2 n3 n4 n5 n6 n7 n8:Int) (l1:Rw) (n9:Int) (l2 l3 l4:Rw) (s1:ByteArray):Rs :=
  let y1:=t23 n1 n2 n3 n4 n5 n6 n7 n8 l1 n9 l2 l3 l4
  let y2:=decide ((l1.length:Int) < (60:Int))
  chk ((okR zr23 zo23 y1)||!y2) <|
  if y2&&(decide ((asI (resC y1 0 0)) < (100000:Int))) then
   let y3:=([[.i .i64 n3,.s s1]]:Rw)
   chk ((flatR 2 y3)&&decide (l1.length+y3.length≤lim)) <|
   let y4:=l1++y3
   let y5:=t23 n1 n2 n3 n4 n5 n6 n7 n8 y4 n9 l2 l3 l4
   chk (okR zr23 zo23 y5) <|
   chk (decide (0≤n1)&&decide (n1 < l4.length)) <|
   chk (decide (1≤1∧(n1.toNat) < l4.length)) <|
   let y6:=stR l4 (n1.toNat) 0 [.i .i64 (asI (resC y5 0 0))]
   let y7:=t23 n1 n2 n3 n4 n5 n6 n7 n8 y4 n9 l2 l3 y6
   chk (okR zr23 zo23 y7) <|
   chk (decide (0≤n1)&&decide (n1 < l3.length)) <|
   chk (decide (1≤1∧(n1.toNat) < l3.length)) <|
   let y8:=t60 n1 n2 n3 n4 n5 n6 n7 n8 y4 n9 l2 (stR l3 (n1.toNat) 0 [.i .i64 (w64 ((asI (resC y7 0 0))+(1:Int)))]) y6
   chk (okR zr60 zo60 y8) <|
   some ([.agg [.i .i64 (asI (resC y8 0 0)),.i .i64 (asI (resC y8 0 1)),.i .i64 (asI (resC y8 0 2)),.i .i64 (asI (resC y8 0 3)),.i .i64 (asI (resC y8 0 4)),.i .i64 (asI (resC y8 0 5)),.i .i64 (asI (resC y8 0 6)),.i .i64 (asI (resC y8 0 7)),.l (asL (resC y8 0 8)),.i .i64 (asI (resC y8 0 9)),.l (asL (resC y8 0 10)),.l (asL (resC y8 0 11)),.l (asL (resC y8 0 12))]],[])
  else
   let y9:=t23 n1 n2 n3 n4 n5 n6 n7 n8 l1 n9 l2 l3 l4
   chk (okR zr23 zo23 y9) <|
   chk (decide (0≤n1)&&decide (n1 < l4.length)) <|
   chk (decide (1≤1∧(n1.toNat) < l4.length)) <|
   let y10:=stR l4 (n1.toNat) 0 [.i .i64 (asI (resC y9 0 0))]
   let y11:=t23 n1 n2 n3 n4 n5 n6 n7 n8 l1 n9 l2 l3 y10
   chk (okR zr23 zo23 y11) <|
   chk (decide (0≤n1)&&decide (n1 < l3.length)) <|
   chk (decide (1≤1∧(n1.toNat) < l3.length)) <|
   let y12:=t60 n1 n2 n3 n4 n5 n6 n7 n8 l1 n9 l2 (stR l3 (n1.toNat) 0 [.i .i64 (w64 ((asI (resC y11 0 0))+(1:Int)))]) y10
   chk (okR zr60 zo60 y12) <|
   some ([.agg [.i .i64 (asI (resC y12 0 0)),.i .i64 (asI (resC y12 0 1)),.i .i64 (asI (resC y12 0 2)),.i .i64 (asI (resC y12 0 3)),.i .i64 (asI (resC y12 0 4)),.i .i64 (asI (resC y12 0 5)),.i .i64 (asI (resC y12 0 6)),.i .i64 (asI (resC y12 0 7)),.l (asL (resC y12 0 8)),.i .i64 (asI (resC y12 0 9)),.l (asL (resC y12 0 10)),.l (asL (resC y12 0 11)),.l (asL (resC y12 0 12))]],[])
def t32:Y32:=ta32 t23 t60
def zr32:List DV:=[.agg [.i .i64 0,.i .i64 0,.i .i64 0,.i .i64 0,.i .i64 0,.i .i64 0,.i .i64 0,.i .i64 0,.l [],.i .i64 0,.l [],.l [],.l []]]
def zo32:Rw:=[]
def A32:List TA:=[.agg [.i .i64,.i .i64,.i .i64,.i .i64,.i .i64,.i .i64,.i .i64,.i .i64,.l,.i .i64,.l,.l,.l],.one (.s)]
abbrev Y61:=Int→Int→Int→Int→Int→Int→Int→Int→Rw→Int→Rw→Rw→Rw→Int→Rs
def la61o1 (t23:Y23) (t37:Y37) (n1 n2 n3 n4 n5 n6 n7 n8:Int) (l1:Rw) (n9:Int) (l2 l3 l4:Rw) (n10 n11:Int) (b1:Bool) (n12 n13 n14 n15 n16 n17 n18 n19:Int) (l5:Rw) (n20:Int) (l6 l7 l8:Rw) (n21 n22 n23 n24 n25 n26 n27:Int) (b2:Bool) (s1:ByteArray) (n28 n29 n30 n31 n32 n33 n34:Int) (b3:Bool) (s2:ByteArray) (q1:Int→Bool→Rw→Rs):Nat→Int→SV→Rw→Rs
  | 0,_,_,_=>none
  | m+1,n35,v1,l9 =>
    let y1:=t23 n12 n13 n14 n15 n16 n17 n18 n19 l5 n20 l6 l7 l8
    chk (okR zr23 zo23 y1) <|
    let y2:=(decide (n35≤(asI (resC y1 0 0))))&&(decide (n35 < (w64 (n11+(4:Int)))))
    if y2 then
     let y3:=w64 ((w64 (n35 - n18)) - (1:Int))
     let y4:=l5.getD y3.toNat []
     chk (decide (0≤y3)&&decide (y3 < l5.length)&&isRow z38 y4) <|
     let y5:=([[.i .i64 (asI (nthD y4 0)),.s (asS (nthD y4 1))]]:Rw)
     chk ((flatR 2 y5)&&decide (l9.length+y5.length≤lim)) <|
     la61o1 t23 t37 n1 n2 n3 n4 n5 n6 n7 n8 l1 n9 l2 l3 l4 n10 n11 b1 n12 n13 n14 n15 n16 n17 n18 n19 l5 n20 l6 l7 l8 n21 n22 n23 n24 n25 n26 n27 b2 s1 n28 n29 n30 n31 n32 n33 n34 b3 s2 q1 m (w64 (n35+(1:Int))) (.d (.b y2)) (l9++y5)
    else
     q1 n35 y2 l9
def ta61 (t23:Y23) (t37:Y37) (n1 n2 n3 n4 n5 n6 n7 n8:Int) (l1:Rw) (n9:Int) (l2 l3 l4:Rw) (n10:Int):Rs :=
  let y1:=l3.getD n10.toNat []
  chk (decide (0≤n10)&&decide (n10 < l3.length)&&isRow z3 y1) <|
  let y2:=asI (nthD y1 0)
  let y3:=decide (y2≤n7)
  if y3 then
   some ([.agg [.i .i64 (5:Int),.i .i64 n1,.i .i64 n10,.i .i64 n3,.i .i64 n7,.i .i64 n8,.i .i64 (0:Int),.b false,.l ([]:Rw),.s (⟨#[]⟩:ByteArray)]],[])
  else
   let y4:=t37 n1 n2 n3 n4 n5 n6 n7 n8 l1 n9 l2 l3 l4 (w64 (y2 - (1:Int)))
   chk (okR zr37 zo37 y4) <|
   let y5:=w64 (y2 - (1:Int))
   let y6:=asI (resC y4 0 0)
   la61o1 t23 t37 n1 n2 n3 n4 n5 n6 n7 n8 l1 n9 l2 l3 l4 n10 y2 y3 n1 n2 n3 n4 n5 n6 n7 n8 l1 n9 l2 l3 l4 (0:Int) (0:Int) (0:Int) (0:Int) (0:Int) (0:Int) (0:Int) false (⟨#[]⟩:ByteArray) (3:Int) n1 n10 n3 y5 y6 n9 false (⟨#[]⟩:ByteArray)
    (fun (n11:Int) (b1:Bool) (l5:Rw) =>
     some ([.agg [.i .i64 (3:Int),.i .i64 n1,.i .i64 n10,.i .i64 n3,.i .i64 y5,.i .i64 y6,.i .i64 n9,.b false,.l l5,.s (⟨#[]⟩:ByteArray)]],[])) KK y2 SV.undef ([]:Rw)
def t61:Y61:=ta61 t23 t37
def zr61:List DV:=[.agg [.i .i64 0,.i .i64 0,.i .i64 0,.i .i64 0,.i .i64 0,.i .i64 0,.i .i64 0,.b false,.l [],.s ⟨#[]⟩]]
def zo61:Rw:=[]
def A61:List TA:=[.agg [.i .i64,.i .i64,.i .i64,.i .i64,.i .i64,.i .i64,.i .i64,.i .i64,.l,.i .i64,.l,.l,.l],.one (.i .i64)]
abbrev Y33:=Int→Int→Int→Int→Int→Int→Int→Int→Rw→Int→Rw→Rw→Rw→Rs
def la33o0 (t61:Y61) (n1 n2 n3 n4 n5 n6 n7 n8:Int) (l1:Rw) (n9:Int) (l2 l3 l4:Rw) (n10 n11 n12 n13 n14 n15 n16 n17:Int) (l5:Rw) (n18:Int) (l6 l7 l8:Rw) (q1:Int→Bool→SV→Rw→Rs):Nat→Int→SV→SV→Rw→Rs
  | 0,_,_,_,_=>none
  | m+1,n19,v1,v2,l9 =>
    let y1:=decide (n19 < n11)
    if y1 then
     let k1:=fun (l10:Rw) =>
      la33o0 t61 n1 n2 n3 n4 n5 n6 n7 n8 l1 n9 l2 l3 l4 n10 n11 n12 n13 n14 n15 n16 n17 l5 n18 l6 l7 l8 q1 m (w64 (n19+(1:Int))) (.d (.b y1)) (.d (.b (n19 != n10))) l10
     if n19 != n10 then
      let y2:=t61 n10 n11 n12 n13 n14 n15 n16 n17 l5 n18 l6 l7 l8 n19
      chk (okR zr61 zo61 y2) <|
      let y3:=([[.i .i64 (asI (resC y2 0 0)),.i .i64 (asI (resC y2 0 1)),.i .i64 (asI (resC y2 0 2)),.i .i64 (asI (resC y2 0 3)),.i .i64 (asI (resC y2 0 4)),.i .i64 (asI (resC y2 0 5)),.i .i64 (asI (resC y2 0 6)),.b (asB (resC y2 0 7)),.l (asL (resC y2 0 8)),.s (asS (resC y2 0 9))]]:Rw)
      chk (true&&decide (l9.length+y3.length≤lim)) <|
      k1 (l9++y3)
     else
      k1 l9
    else
     q1 n19 y1 (keepV [64,320] v2) l9
def ta33 (t61:Y61) (n1 n2 n3 n4 n5 n6 n7 n8:Int) (l1:Rw) (n9:Int) (l2 l3 l4:Rw):Rs :=
  la33o0 t61 n1 n2 n3 n4 n5 n6 n7 n8 l1 n9 l2 l3 l4 n1 n2 n3 n4 n5 n6 n7 n8 l1 n9 l2 l3 l4
   (fun (n10:Int) (b1:Bool) (v1:SV) (l5:Rw) =>
    some ([.one (.l l5)],[])) KK (0:Int) SV.undef SV.undef ([]:Rw)
def t33:Y33:=ta33 t61
def zr33:List DV:=[.one (.l [])]
def zo33:Rw:=[]
def A33:List TA:=[.agg [.i .i64,.i .i64,.i .i64,.i .i64,.i .i64,.i .i64,.i .i64,.i .i64,.l,.i .i64,.l,.l,.l]]
abbrev Y83:=Int→Int→Int→Int→Int→Int→Int→Int→Rw→Int→Rw→Rw→Rw→Rs
def la83o0 (t23:Y23) (t32:Y32) (t33:Y33) (n1 n2 n3 n4 n5 n6 n7 n8 n9 n10 n11 n12 n13 n14 n15 n16 n17 n18 n19 n20 n21 n22 n23 n24 n25 n26 n27:Int) (l1 l2 l3 l4 l5:Rw) (q1:Int→Bool→Rw→Rw→Rs):Nat→Int→SV→Rw→Rw→Rs
  | 0,_,_,_,_=>none
  | m+1,n28,v1,l6,l7 =>
    let y1:=decide (n28 < n11)
    if y1 then
     let y2:=t23 n10 n11 n12 n13 n14 n15 n16 n17 l2 n18 l1 l6 l7
     chk (okR zr23 zo23 y2) <|
     let y3:=([[.i .i64 (w64 ((asI (resC y2 0 0))+(1:Int)))]]:Rw)
     chk ((flatR 1 y3)&&decide (l6.length+y3.length≤lim)) <|
     let y4:=([[.i .i64 (0:Int)]]:Rw)
     chk ((flatR 1 y4)&&decide (l7.length+y4.length≤lim)) <|
     la83o0 t23 t32 t33 n1 n2 n3 n4 n5 n6 n7 n8 n9 n10 n11 n12 n13 n14 n15 n16 n17 n18 n19 n20 n21 n22 n23 n24 n25 n26 n27 l1 l2 l3 l4 l5 q1 m (w64 (n28+(1:Int))) (.d (.b y1)) (l6++y3) (l7++y4)
    else
     q1 n28 y1 l6 l7
def ta83 (t23:Y23) (t32:Y32) (t33:Y33) (n1 n2 n3 n4 n5 n6 n7 n8:Int) (l1:Rw) (n9:Int) (l2 l3 l4:Rw):Rs :=
  la83o0 t23 t32 t33 n1 n2 n3 n4 n5 n6 n7 n8 n9 n1 n2 n3 n4 (3:Int) n1 n7 n8 n9 (0:Int) (0:Int) (0:Int) (0:Int) (0:Int) (0:Int) (0:Int) (0:Int) (0:Int) ([]:Rw) l1 l2 l3 l4
   (fun (n10:Int) (b1:Bool) (l5 l6:Rw) =>
    let y1:=t32 n1 n2 n3 n4 (3:Int) n1 n7 n8 l1 n9 ([]:Rw) l5 l6 (⟨#[]⟩:ByteArray)
    chk (okR zr32 zo32 y1) <|
    let y2:=asI (resC y1 0 0)
    let y3:=asI (resC y1 0 1)
    let y4:=asI (resC y1 0 2)
    let y5:=asI (resC y1 0 3)
    let y6:=asI (resC y1 0 4)
    let y7:=asI (resC y1 0 5)
    let y8:=asI (resC y1 0 6)
    let y9:=asI (resC y1 0 7)
    let y10:=asL (resC y1 0 8)
    let y11:=asI (resC y1 0 9)
    let y12:=asL (resC y1 0 10)
    let y13:=asL (resC y1 0 11)
    let y14:=asL (resC y1 0 12)
    let y15:=t33 y2 y3 y4 y5 y6 y7 y8 y9 y10 y11 y12 y13 y14
    chk (okR zr33 zo33 y15) <|
    some ([.agg [.i .i64 y2,.i .i64 y3,.i .i64 y4,.i .i64 y5,.i .i64 y6,.i .i64 y7,.i .i64 y8,.i .i64 y9,.l y10,.i .i64 y11,.l y12,.l y13,.l y14],.one (.l (asL (resC y15 0 0)))],[])) KK (0:Int) SV.undef ([]:Rw) ([]:Rw)
def t83:Y83:=ta83 t23 t32 t33
def zr83:List DV:=[.agg [.i .i64 0,.i .i64 0,.i .i64 0,.i .i64 0,.i .i64 0,.i .i64 0,.i .i64 0,.i .i64 0,.l [],.i .i64 0,.l [],.l [],.l []],.one (.l [])]
def zo83:Rw:=[]
def A83:List TA:=[.agg [.i .i64,.i .i64,.i .i64,.i .i64,.i .i64,.i .i64,.i .i64,.i .i64,.l,.i .i64,.l,.l,.l]]
abbrev Y76:=Int→Int→Int→Int→Int→Int→Int→Int→Rw→Int→Rw→Rw→Rw→Rs
def la76o3 (t7:Y7) (t23:Y23) (t31:Y31) (t37:Y37) (t83:Y83) (n1 n2 n3 n4 n5 n6 n7 n8:Int) (l1:Rw) (n9:Int) (l2 l3 l4:Rw) (b1 b2 b3:Bool) (n10 n11 n12 n13 n14 n15 n16 n17 n18 n19 n20 n21 n22 n23 n24 n25 n26 n27:Int) (l5 l6 l7 l8 l9:Rw) (q1:Int→Bool→SV→Rw→Rs):Nat→Int→SV→SV→Rw→Rs
  | 0,_,_,_,_=>none
  | m+1,n28,v1,v2,l10 =>
    let y1:=decide (n28 < n11)
    if y1 then
     let k1:=fun (l11:Rw) =>
      la76o3 t7 t23 t31 t37 t83 n1 n2 n3 n4 n5 n6 n7 n8 l1 n9 l2 l3 l4 b1 b2 b3 n10 n11 n12 n13 n14 n15 n16 n17 n18 n19 n20 n21 n22 n23 n24 n25 n26 n27 l5 l6 l7 l8 l9 q1 m (w64 (n28+(1:Int))) (.d (.b y1)) (.d (.b (n28 != n10))) l11
     if n28 != n10 then
      let y2:=t23 n10 n11 n12 n13 n14 n15 n16 n17 l6 n18 l5 l8 l9
      chk (okR zr23 zo23 y2) <|
      let y3:=t23 n10 n11 n12 n13 n14 n15 n16 n17 l6 n18 l5 l8 l9
      chk (okR zr23 zo23 y3) <|
      let y4:=t37 n10 n11 n12 n13 n14 n15 n16 n17 l6 n18 l5 l8 l9 (asI (resC y3 0 0))
      chk (okR zr37 zo37 y4) <|
      let y5:=([[.i .i64 (1:Int),.i .i64 n10,.i .i64 n28,.i .i64 n12,.i .i64 (asI (resC y2 0 0)),.i .i64 (asI (resC y4 0 0)),.i .i64 (0:Int),.b false,.l ([]:Rw),.s (⟨#[]⟩:ByteArray)]]:Rw)
      chk (true&&decide (l10.length+y5.length≤lim)) <|
      k1 (l10++y5)
     else
      k1 l10
    else
     q1 n28 y1 (keepV [64,128,512,2368,4105,4107,4108,4109] v2) l10
def ta76 (t7:Y7) (t23:Y23) (t31:Y31) (t37:Y37) (t83:Y83) (n1 n2 n3 n4 n5 n6 n7 n8:Int) (l1:Rw) (n9:Int) (l2 l3 l4:Rw):Rs :=
  let y1:=t7 n1 n2 n3 n4 n5 n6 n7 n8 l1 n9 l2 l3 l4
  chk (okR zr7 zo7 y1) <|
  let y2:=!(asB (resC y1 0 0))
  if y2 then
   some ([.agg [.i .i64 (0:Int),.i .i64 (0:Int),.i .i64 (0:Int),.i .i64 (0:Int),.i .i64 (0:Int),.i .i64 (0:Int),.i .i64 (0:Int),.i .i64 (0:Int),.l ([]:Rw),.i .i64 (0:Int),.l ([]:Rw),.l ([]:Rw),.l ([]:Rw)],.one (.l ([]:Rw))],[])
  else
   let y3:=t31 n1 n2 n3 n4 n5 n6 n7 n8 l1 n9 l2 l3 l4
   chk (okR zr31 zo31 y3) <|
   let y4:=asI (resC y3 0 4)
   let y5:=asI (resC y3 0 2)
   let y6:=(y4==(3:Int))||(decide (y5 ≥ (100000:Int)))
   if y6 then
    let y7:=asI (resC y3 0 0)
    let y8:=asI (resC y3 0 1)
    let y9:=asI (resC y3 0 6)
    let y10:=asI (resC y3 0 7)
    let y11:=asL (resC y3 0 8)
    let y12:=asI (resC y3 0 9)
    let y13:=asL (resC y3 0 10)
    let y14:=asL (resC y3 0 11)
    let y15:=asL (resC y3 0 12)
    some ([.agg [.i .i64 y7,.i .i64 y8,.i .i64 y5,.i .i64 (asI (resC y3 0 3)),.i .i64 y4,.i .i64 (asI (resC y3 0 5)),.i .i64 y9,.i .i64 y10,.l y11,.i .i64 y12,.l y13,.l y14,.l y15],.one (.l ([]:Rw))],[])
   else
    let y16:=asI (resC y3 0 0)
    let y17:=([[.i .i64 y16]]:Rw)
    let y18:=asI (resC y3 0 1)
    let y19:=decide ((w64 ((2:Int) * (y17.length:Int))) > y18)
    if y19 then
     let y20:=w64 (y5+(1:Int))
     let y21:=asI (resC y3 0 6)
     let y22:=asI (resC y3 0 7)
     let y23:=asL (resC y3 0 8)
     let y24:=asI (resC y3 0 9)
     let y25:=asL (resC y3 0 11)
     let y26:=asL (resC y3 0 12)
     let y27:=t83 y16 y18 y20 y16 (2:Int) (-1:Int) y21 y22 y23 y24 y17 y25 y26
     chk (okR zr83 zo83 y27) <|
     some ([.agg [.i .i64 (asI (resC y27 0 0)),.i .i64 (asI (resC y27 0 1)),.i .i64 (asI (resC y27 0 2)),.i .i64 (asI (resC y27 0 3)),.i .i64 (asI (resC y27 0 4)),.i .i64 (asI (resC y27 0 5)),.i .i64 (asI (resC y27 0 6)),.i .i64 (asI (resC y27 0 7)),.l (asL (resC y27 0 8)),.i .i64 (asI (resC y27 0 9)),.l (asL (resC y27 0 10)),.l (asL (resC y27 0 11)),.l (asL (resC y27 0 12))],.one (.l (asL (resC y27 1 0)))],[])
    else
     let y28:=w64 (y5+(1:Int))
     let y29:=asI (resC y3 0 6)
     let y30:=asI (resC y3 0 7)
     let y31:=asI (resC y3 0 9)
     let y32:=asL (resC y3 0 8)
     let y33:=asL (resC y3 0 10)
     let y34:=asL (resC y3 0 11)
     let y35:=asL (resC y3 0 12)
     la76o3 t7 t23 t31 t37 t83 n1 n2 n3 n4 n5 n6 n7 n8 l1 n9 l2 l3 l4 y2 y6 y19 y16 y18 y28 y16 (2:Int) (-1:Int) y29 y30 y31 (0:Int) (0:Int) (0:Int) (0:Int) (0:Int) (0:Int) (0:Int) (0:Int) (0:Int) y17 y32 y33 y34 y35
      (fun (n10:Int) (b1:Bool) (v1:SV) (l5:Rw) =>
       some ([.agg [.i .i64 y16,.i .i64 y18,.i .i64 y28,.i .i64 y16,.i .i64 (2:Int),.i .i64 (-1:Int),.i .i64 y29,.i .i64 y30,.l y32,.i .i64 y31,.l y17,.l y34,.l y35],.one (.l l5)],[])) KK (0:Int) SV.undef SV.undef ([]:Rw)
def t76:Y76:=ta76 t7 t23 t31 t37 t83
def zr76:List DV:=[.agg [.i .i64 0,.i .i64 0,.i .i64 0,.i .i64 0,.i .i64 0,.i .i64 0,.i .i64 0,.i .i64 0,.l [],.i .i64 0,.l [],.l [],.l []],.one (.l [])]
def zo76:Rw:=[]
def A76:List TA:=[.agg [.i .i64,.i .i64,.i .i64,.i .i64,.i .i64,.i .i64,.i .i64,.i .i64,.l,.i .i64,.l,.l,.l]]
abbrev Y12:=Int→Int→Int→Int→Int→Int→Int→Int→Rw→Int→Rw→Rw→Rw→ByteArray→Rs
def ta12 (t7:Y7) (t23:Y23) (t31:Y31) (t32:Y32) (t33:Y33) (n1 n2 n3 n4 n5 n6 n7 n8:Int) (l1:Rw) (n9:Int) (l2 l3 l4:Rw) (s1:ByteArray):Rs :=
  let y1:=t7 n1 n2 n3 n4 n5 n6 n7 n8 l1 n9 l2 l3 l4
  chk (okR zr7 zo7 y1) <|
  if !(asB (resC y1 0 0)) then
   some ([.agg [.i .i64 (0:Int),.i .i64 (0:Int),.i .i64 (0:Int),.i .i64 (0:Int),.i .i64 (0:Int),.i .i64 (0:Int),.i .i64 (0:Int),.i .i64 (0:Int),.l ([]:Rw),.i .i64 (0:Int),.l ([]:Rw),.l ([]:Rw),.l ([]:Rw)],.one (.l ([]:Rw)),.one (.i .i64 (0:Int))],[])
  else
   let y2:=t31 n1 n2 n3 n4 n5 n6 n7 n8 l1 n9 l2 l3 l4
   chk (okR zr31 zo31 y2) <|
   let y3:=asI (resC y2 0 0)
   let y4:=asI (resC y2 0 1)
   let y5:=asI (resC y2 0 2)
   let y6:=asI (resC y2 0 3)
   let y7:=asI (resC y2 0 4)
   let y8:=asI (resC y2 0 5)
   let y9:=asI (resC y2 0 6)
   let y10:=asI (resC y2 0 7)
   let y11:=asL (resC y2 0 8)
   let y12:=asI (resC y2 0 9)
   let y13:=asL (resC y2 0 10)
   let y14:=asL (resC y2 0 11)
   let y15:=asL (resC y2 0 12)
   let y16:=t23 y3 y4 y5 y6 y7 y8 y9 y10 y11 y12 y13 y14 y15
   let y17:=((y7 != (3:Int))||(decide ((s1.size:Int) > (1600:Int))))||(decide ((y11.length:Int) ≥ (60:Int)))
   chk ((okR zr23 zo23 y16)||!(!y17)) <|
   if y17||(decide ((asI (resC y16 0 0)) ≥ (100000:Int))) then
    some ([.agg [.i .i64 y3,.i .i64 y4,.i .i64 y5,.i .i64 y6,.i .i64 y7,.i .i64 y8,.i .i64 y9,.i .i64 y10,.l y11,.i .i64 y12,.l y13,.l y14,.l y15],.one (.l ([]:Rw)),.one (.i .i64 (0:Int))],[])
   else
    let y18:=t32 y3 y4 y5 y6 y7 y8 y9 y10 y11 y12 y13 y14 y15 s1
    chk (okR zr32 zo32 y18) <|
    let y19:=asI (resC y18 0 0)
    let y20:=asI (resC y18 0 1)
    let y21:=asI (resC y18 0 2)
    let y22:=asI (resC y18 0 3)
    let y23:=asI (resC y18 0 4)
    let y24:=asI (resC y18 0 5)
    let y25:=asI (resC y18 0 6)
    let y26:=asI (resC y18 0 7)
    let y27:=asL (resC y18 0 8)
    let y28:=asI (resC y18 0 9)
    let y29:=asL (resC y18 0 10)
    let y30:=asL (resC y18 0 11)
    let y31:=asL (resC y18 0 12)
    let y32:=t33 y19 y20 y21 y22 y23 y24 y25 y26 y27 y28 y29 y30 y31
    chk (okR zr33 zo33 y32) <|
    let y33:=t23 y19 y20 y21 y22 y23 y24 y25 y26 y27 y28 y29 y30 y31
    chk (okR zr23 zo23 y33) <|
    some ([.agg [.i .i64 y19,.i .i64 y20,.i .i64 y21,.i .i64 y22,.i .i64 y23,.i .i64 y24,.i .i64 y25,.i .i64 y26,.l y27,.i .i64 y28,.l y29,.l y30,.l y31],.one (.l (asL (resC y32 0 0))),.one (.i .i64 (asI (resC y33 0 0)))],[])
def t12:Y12:=ta12 t7 t23 t31 t32 t33
def zr12:List DV:=[.agg [.i .i64 0,.i .i64 0,.i .i64 0,.i .i64 0,.i .i64 0,.i .i64 0,.i .i64 0,.i .i64 0,.l [],.i .i64 0,.l [],.l [],.l []],.one (.l []),.one (.i .i64 0)]
def zo12:Rw:=[]
def A12:List TA:=[.agg [.i .i64,.i .i64,.i .i64,.i .i64,.i .i64,.i .i64,.i .i64,.i .i64,.l,.i .i64,.l,.l,.l],.one (.s)]
abbrev Y77:=Int→Int→Int→Int→Int→Int→Int→Int→Rw→Int→Rw→Rw→Rw→Int→Rs
def ta77 (t7:Y7) (t31:Y31) (t37:Y37) (n1 n2 n3 n4 n5 n6 n7 n8:Int) (l1:Rw) (n9:Int) (l2 l3 l4:Rw) (n10:Int):Rs :=
  let y1:=t7 n1 n2 n3 n4 n5 n6 n7 n8 l1 n9 l2 l3 l4
  chk (okR zr7 zo7 y1) <|
  if !(asB (resC y1 0 0)) then
   some ([.agg [.i .i64 (0:Int),.i .i64 (0:Int),.i .i64 (0:Int),.i .i64 (0:Int),.i .i64 (0:Int),.i .i64 (0:Int),.i .i64 (0:Int),.i .i64 (0:Int),.l ([]:Rw),.i .i64 (0:Int),.l ([]:Rw),.l ([]:Rw),.l ([]:Rw)],.one (.b false)],[])
  else
   let y2:=t31 n1 n2 n3 n4 n5 n6 n7 n8 l1 n9 l2 l3 l4
   chk (okR zr31 zo31 y2) <|
   let y3:=asI (resC y2 0 6)
   let y4:=asI (resC y2 0 9)
   if (decide (n10≤y3))||(decide (n10 > y4)) then
    let y5:=asI (resC y2 0 0)
    let y6:=asI (resC y2 0 1)
    let y7:=asI (resC y2 0 2)
    let y8:=asI (resC y2 0 3)
    let y9:=asI (resC y2 0 4)
    let y10:=asI (resC y2 0 5)
    let y11:=asI (resC y2 0 7)
    let y12:=asL (resC y2 0 8)
    let y13:=asL (resC y2 0 10)
    let y14:=asL (resC y2 0 11)
    let y15:=asL (resC y2 0 12)
    some ([.agg [.i .i64 y5,.i .i64 y6,.i .i64 y7,.i .i64 y8,.i .i64 y9,.i .i64 y10,.i .i64 y3,.i .i64 y11,.l y12,.i .i64 y4,.l y13,.l y14,.l y15],.one (.b false)],[])
   else
    let y16:=asI (resC y2 0 0)
    let y17:=asI (resC y2 0 1)
    let y18:=asI (resC y2 0 2)
    let y19:=asI (resC y2 0 3)
    let y20:=asI (resC y2 0 4)
    let y21:=asI (resC y2 0 5)
    let y22:=asI (resC y2 0 7)
    let y23:=asL (resC y2 0 8)
    let y24:=asL (resC y2 0 10)
    let y25:=asL (resC y2 0 11)
    let y26:=asL (resC y2 0 12)
    let y27:=t37 y16 y17 y18 y19 y20 y21 y3 y22 y23 y4 y24 y25 y26 n10
    chk (okR zr37 zo37 y27) <|
    let y28:=w64 (n10 - y3)
    chk (decide (0≤y28∧y28≤y23.length)) <|
    some ([.agg [.i .i64 y16,.i .i64 y17,.i .i64 y18,.i .i64 y19,.i .i64 y20,.i .i64 y21,.i .i64 n10,.i .i64 (asI (resC y27 0 0)),.l (y23.drop y28.toNat),.i .i64 y4,.l y24,.l y25,.l y26],.one (.b true)],[])
def t77:Y77:=ta77 t7 t31 t37
def zr77:List DV:=[.agg [.i .i64 0,.i .i64 0,.i .i64 0,.i .i64 0,.i .i64 0,.i .i64 0,.i .i64 0,.i .i64 0,.l [],.i .i64 0,.l [],.l [],.l []],.one (.b false)]
def zo77:Rw:=[]
def A77:List TA:=[.agg [.i .i64,.i .i64,.i .i64,.i .i64,.i .i64,.i .i64,.i .i64,.i .i64,.l,.i .i64,.l,.l,.l],.one (.i .i64)]
abbrev Y102:=Int→Rs
def ta102 (t20:Y20) (n1:Int):Rs :=
  let y1:=t20 n1 (0:Int) (4:Int)
  chk (okR zr20 zo20 y1) <|
  some ([.one (.b (asB (resC y1 0 0)))],[])
def t102:Y102:=ta102 t20
def zr102:List DV:=[.one (.b false)]
def zo102:Rw:=[]
def A102:List TA:=[.one (.i .i64)]
abbrev Y103:=Rw→Int→Int→Rs
def la103o1 (t20:Y20) (l1:Rw) (n1:Int) (b1 b2:Bool) (q1:Int→Int→Bool→Bool→Rs) (q2:Int→Int→Bool→SV→Rs):Nat→Int→Int→SV→SV→Rs
  | 0,_,_,_,_=>none
  | m+1,n2,n3,v1,v2 =>
    let y1:=decide (n3 < (l1.length:Int))
    if y1 then
     let y2:=l1.getD n3.toNat []
     chk (decide (0≤n3)&&decide (n3 < l1.length)&&isRow z38 y2) <|
     let y3:=t20 (asI (nthD y2 0)) n2 n1
     chk (okR zr20 zo20 y3) <|
     let y4:=l1.getD n3.toNat []
     let y5:=!(asB (resC y3 0 0))
     chk ((decide (0≤n3)&&decide (n3 < l1.length)&&isRow z38 y4)||!(!y5)) <|
     let y6:=y5||(decide (((asS (nthD y4 1)).size:Int) > (1600:Int)))
     if y6 then
      q1 n2 n3 y1 y6
     else
      let y7:=l1.getD n3.toNat []
      chk (decide (0≤n3)&&decide (n3 < l1.length)&&isRow z38 y7) <|
      la103o1 t20 l1 n1 b1 b2 q1 q2 m (asI (nthD y7 0)) (w64 (n3+(1:Int))) (.d (.b y1)) (.d (.b y6))
    else
     q2 n2 n3 y1 (keepV [] v2)
def ta103 (t20:Y20) (l1:Rw) (n1 n2:Int):Rs :=
  let k1:=fun (n3:Int) =>
   let y1:=decide (n1 < (1:Int))
   la103o1 t20 l1 n2 false y1
    (fun (n4 n5:Int) (b1 b2:Bool) =>
     some ([.one (.b false)],[]))
    (fun (n6 n7:Int) (b3:Bool) (v1:SV) =>
     some ([.one (.b true)],[])) KK n3 (0:Int) SV.undef SV.undef
  let y2:=decide (n1 < (1:Int))
  if y2 then
   k1 (1:Int)
  else
   k1 n1
def t103:Y103:=ta103 t20
def zr103:List DV:=[.one (.b false)]
def zo103:Rw:=[]
def A103:List TA:=[.one (.l),.one (.i .i64),.one (.i .i64)]
abbrev Y112:=Rw→Rw→Rs
def l112o1 (l1 l2:Rw) (b1 b2:Bool) (q1:Int→Bool→Bool→Rs) (q2:Int→Bool→SV→Rs):Nat→Int→SV→SV→Rs
  | 0,_,_,_=>none
  | m+1,n1,v1,v2 =>
    let y1:=decide (n1 < (l1.length:Int))
    if y1 then
     let y2:=l1.getD n1.toNat []
     chk (decide (0≤n1)&&decide (n1 < l1.length)&&isRow z38 y2) <|
     let y3:=l2.getD n1.toNat []
     chk (decide (0≤n1)&&decide (n1 < l2.length)&&isRow z38 y3) <|
     let y4:=!(((asI (nthD y2 0))==(asI (nthD y3 0)))&&(((asS (nthD y2 1)).toList==(asS (nthD y3 1)).toList)&&true))
     if y4 then
      q1 n1 y1 y4
     else
      l112o1 l1 l2 b1 b2 q1 q2 m (w64 (n1+(1:Int))) (.d (.b y1)) (.d (.b y4))
    else
     q2 n1 y1 (keepV [] v2)
def t112 (l1 l2:Rw):Rs :=
  let y1:=(l1.length:Int) != (l2.length:Int)
  if y1 then
   some ([.one (.b false)],[])
  else
   l112o1 l1 l2 false y1
    (fun (n1:Int) (b1 b2:Bool) =>
     some ([.one (.b false)],[]))
    (fun (n2:Int) (b3:Bool) (v1:SV) =>
     some ([.one (.b true)],[])) KK (0:Int) SV.undef SV.undef
def zr112:List DV:=[.one (.b false)]
def zo112:Rw:=[]
def A112:List TA:=[.one (.l),.one (.l)]
abbrev Y104:=Int→Int→Int→Int→Int→Int→Int→Bool→Rw→ByteArray→Int→Int→Int→Int→Int→Int→Int→Bool→Rw→ByteArray→Rs
def ta104 (t112:Y112) (n1 n2 n3 n4 n5 n6 n7:Int) (b1:Bool) (l1:Rw) (s1:ByteArray) (n8 n9 n10 n11 n12 n13 n14:Int) (b2:Bool) (l2:Rw) (s2:ByteArray):Rs :=
  if ((((((((n1 != n8)||(n2 != n9))||(n3 != n10))||(n4 != n11))||(n5 != n12))||(n6 != n13))||(n7 != n14))||(!(b1==b2)))||(!(s1.toList==s2.toList)) then
   some ([.one (.b false)],[])
  else
   chk (okR zr112 zo112 (t112 l1 l2)) <|
   some ([.one (.b (asB (resC (t112 l1 l2) 0 0)))],[])
def t104:Y104:=ta104 t112
def zr104:List DV:=[.one (.b false)]
def zo104:Rw:=[]
def A104:List TA:=[.agg [.i .i64,.i .i64,.i .i64,.i .i64,.i .i64,.i .i64,.i .i64,.b,.l,.s],.agg [.i .i64,.i .i64,.i .i64,.i .i64,.i .i64,.i .i64,.i .i64,.b,.l,.s]]
abbrev Y84:=Int→Int→Int→Int→Int→Int→Int→Bool→Rw→ByteArray→Rs
def ta84 (t20:Y20) (t39:Y39) (t102:Y102) (t103:Y103) (t104:Y104) (n1 n2 n3 n4 n5 n6 n7:Int) (b1:Bool) (l1:Rw) (s1:ByteArray):Rs :=
  chk (okR zr102 zo102 (t102 n2)) <|
  let y1:=asB (resC (t102 n2) 0 0)
  chk ((okR zr102 zo102 (t102 n3))||!y1) <|
  let y2:=t20 n4 (1:Int) (100000:Int)
  chk (okR zr20 zo20 y2) <|
  let k1:=fun (n8:Int) =>
   if n1==(1:Int) then
    let y3:=(y1&&(asB (resC (t102 n3) 0 0)))&&(n2 != n3)
    let y4:=asB (resC y2 0 0)
    let y5:=y3&&y4
    chk ((okR zr39 zo39 (t39 n5 n6))||!y5) <|
    let y6:=t104 n1 n2 n3 n4 n5 n6 n7 b1 l1 s1 n1 n2 n3 n8 n5 n6 (0:Int) false ([]:Rw) (⟨#[]⟩:ByteArray)
    let y7:=(y5&&(asB (resC (t39 n5 n6) 0 0)))&&(decide (n6≤n4))
    chk ((okR zr104 zo104 y6)||!y7) <|
    some ([.one (.b (y7&&(asB (resC y6 0 0))))],[])
   else
    if n1==(2:Int) then
     let y8:=t104 n1 n2 n3 n4 n5 n6 n7 b1 l1 s1 n1 n2 n3 n8 (0:Int) (0:Int) (0:Int) b1 ([]:Rw) (⟨#[]⟩:ByteArray)
     let y9:=(y1&&(asB (resC (t102 n3) 0 0)))&&(n2 != n3)
     let y10:=asB (resC y2 0 0)
     let y11:=y9&&y10
     chk ((okR zr104 zo104 y8)||!y11) <|
     some ([.one (.b (y11&&(asB (resC y8 0 0))))],[])
    else
     if n1==(3:Int) then
      let y12:=(y1&&(asB (resC (t102 n3) 0 0)))&&(n2 != n3)
      let y13:=asB (resC y2 0 0)
      let y14:=y12&&y13
      chk ((okR zr39 zo39 (t39 n5 n6))||!y14) <|
      let y15:=t20 n7 (0:Int) (100000:Int)
      let y16:=(y14&&(asB (resC (t39 n5 n6) 0 0)))&&(decide (n6≤n4))
      chk ((okR zr20 zo20 y15)||!y16) <|
      let y17:=t103 l1 n6 n4
      let y18:=(y16&&(asB (resC y15 0 0)))&&(decide ((l1.length:Int)≤(4:Int)))
      chk ((okR zr103 zo103 y17)||!y18) <|
      let y19:=t104 n1 n2 n3 n4 n5 n6 n7 b1 l1 s1 n1 n2 n3 n8 n5 n6 n7 false l1 (⟨#[]⟩:ByteArray)
      let y20:=(y18&&(asB (resC y17 0 0)))&&(decide ((w64 (n5+(l1.length:Int)))≤(100000:Int)))
      chk ((okR zr104 zo104 y19)||!y20) <|
      some ([.one (.b (y20&&(asB (resC y19 0 0))))],[])
     else
      if n1==(4:Int) then
       let y21:=t20 n5 (0:Int) (100000:Int)
       let y22:=(y1&&(asB (resC (t102 n3) 0 0)))&&(n2 != n3)
       let y23:=asB (resC y2 0 0)
       let y24:=y22&&y23
       chk ((okR zr20 zo20 y21)||!y24) <|
       let y25:=t104 n1 n2 n3 n4 n5 n6 n7 b1 l1 s1 n1 n2 n3 n8 n5 (0:Int) (0:Int) b1 ([]:Rw) (⟨#[]⟩:ByteArray)
       let y26:=y24&&(asB (resC y21 0 0))
       chk ((okR zr104 zo104 y25)||!y26) <|
       some ([.one (.b (y26&&(asB (resC y25 0 0))))],[])
      else
       let k2:=fun (b2:Bool) (n9:Int) (s2:ByteArray) =>
        let y27:=t104 n1 n2 n3 n4 n5 n6 n7 b1 l1 s1 n1 n2 n3 n8 n5 n9 (0:Int) false ([]:Rw) s2
        chk ((okR zr104 zo104 y27)||!b2) <|
        some ([.one (.b (b2&&(asB (resC y27 0 0))))],[])
       if n1==(5:Int) then
        let y28:=t20 n5 (1:Int) (100000:Int)
        let y29:=(y1&&(asB (resC (t102 n3) 0 0)))&&(n2 != n3)
        let y30:=asB (resC y2 0 0)
        let y31:=y29&&y30
        chk ((okR zr20 zo20 y28)||!y31) <|
        let y32:=t20 n6 (1:Int) n4
        let y33:=y31&&(asB (resC y28 0 0))
        chk ((okR zr20 zo20 y32)||!y33) <|
        k2 ((y33&&(asB (resC y32 0 0)))&&(decide ((s1.size:Int)≤(20000:Int)))) n6 s1
       else
        k2 false (0:Int) (⟨#[]⟩:ByteArray)
  let y34:=(y1&&(asB (resC (t102 n3) 0 0)))&&(n2 != n3)
  if y34 then
   k1 n4
  else
   k1 (0:Int)
def t84:Y84:=ta84 t20 t39 t102 t103 t104
def zr84:List DV:=[.one (.b false)]
def zo84:Rw:=[]
def A84:List TA:=[.agg [.i .i64,.i .i64,.i .i64,.i .i64,.i .i64,.i .i64,.i .i64,.b,.l,.s]]
abbrev Y85:=Int→Int→Int→Int→Int→Int→Int→Int→Rw→Int→Rw→Rw→Rw→Int→Rs
def t85 (n1 n2 n3 n4 n5 n6 n7 n8:Int) (l1:Rw) (n9:Int) (l2 l3 l4:Rw) (n10:Int):Rs :=
  let k1:=fun (n11:Int) =>
   some ([.agg [.i .i64 n1,.i .i64 n2,.i .i64 n10,.i .i64 n11,.i .i64 (1:Int),.i .i64 (-1:Int),.i .i64 n7,.i .i64 n8,.l l1,.i .i64 n9,.l ([]:Rw),.l ([]:Rw),.l ([]:Rw)]],[])
  if n10 != n3 then
   k1 (-1:Int)
  else
   k1 n4
def zr85:List DV:=[.agg [.i .i64 0,.i .i64 0,.i .i64 0,.i .i64 0,.i .i64 0,.i .i64 0,.i .i64 0,.i .i64 0,.l [],.i .i64 0,.l [],.l [],.l []]]
def zo85:Rw:=[]
def A85:List TA:=[.agg [.i .i64,.i .i64,.i .i64,.i .i64,.i .i64,.i .i64,.i .i64,.i .i64,.l,.i .i64,.l,.l,.l],.one (.i .i64)]
abbrev Y86:=Int→Int→Int→Int→Int→Int→Int→Int→Rw→Int→Rw→Rw→Rw→Int→Int→Int→Int→Int→Int→Int→Bool→Rw→ByteArray→Rs
def ta86 (t23:Y23) (t37:Y37) (n1 n2 n3 n4 n5 n6 n7 n8:Int) (l1:Rw) (n9:Int) (l2 l3 l4:Rw) (n10 n11 n12 n13 n14 n15 n16:Int) (b1:Bool) (l5:Rw) (s1:ByteArray):Rs :=
  let y1:=t23 n1 n2 n3 n4 n5 n6 n7 n8 l1 n9 l2 l3 l4
  chk (okR zr23 zo23 y1) <|
  let y2:=asI (resC y1 0 0)
  let y3:=t37 n1 n2 n3 n4 n5 n6 n7 n8 l1 n9 l2 l3 l4 y2
  chk (okR zr37 zo37 y3) <|
  let k1:=fun (n17:Int) =>
   let y4:=asI (resC y3 0 0)
   let y5:=((n5==(1:Int))&&((n4==(-1:Int))||(n4==n11)))&&((decide (n15 > y4))||((n15==y4)&&(decide (n14 ≥ y2))))
   some ([.agg [.i .i64 n1,.i .i64 n2,.i .i64 n3,.i .i64 n17,.i .i64 n5,.i .i64 n6,.i .i64 n7,.i .i64 n8,.l l1,.i .i64 n9,.l l2,.l l3,.l l4],.one (.l ([[.i .i64 (2:Int),.i .i64 n1,.i .i64 n11,.i .i64 n3,.i .i64 (0:Int),.i .i64 (0:Int),.i .i64 (0:Int),.b y5,.l ([]:Rw),.s (⟨#[]⟩:ByteArray)]]:Rw))],[])
  let y6:=asI (resC y3 0 0)
  let y7:=((n5==(1:Int))&&((n4==(-1:Int))||(n4==n11)))&&((decide (n15 > y6))||((n15==y6)&&(decide (n14 ≥ y2))))
  if y7 then
   k1 n11
  else
   k1 n4
def t86:Y86:=ta86 t23 t37
def zr86:List DV:=[.agg [.i .i64 0,.i .i64 0,.i .i64 0,.i .i64 0,.i .i64 0,.i .i64 0,.i .i64 0,.i .i64 0,.l [],.i .i64 0,.l [],.l [],.l []],.one (.l [])]
def zo86:Rw:=[]
def A86:List TA:=[.agg [.i .i64,.i .i64,.i .i64,.i .i64,.i .i64,.i .i64,.i .i64,.i .i64,.l,.i .i64,.l,.l,.l],.agg [.i .i64,.i .i64,.i .i64,.i .i64,.i .i64,.i .i64,.i .i64,.b,.l,.s]]
abbrev Y87:=Int→Int→Int→Int→Int→Int→Int→Int→Rw→Int→Rw→Rw→Rw→Int→Int→Int→Int→Int→Int→Int→Bool→Rw→ByteArray→Rs
def la87o1 (t24:Y24) (t83:Y83) (n1 n2 n3 n4 n5 n6 n7 n8 n9 n10 n11 n12 n13 n14 n15 n16:Int) (b1:Bool) (l1:Rw) (s1:ByteArray) (b2:Bool) (n17 n18 n19 n20 n21 n22 n23 n24 n25 n26 n27 n28 n29 n30 n31 n32:Int) (b3:Bool) (l2:Rw) (s2:ByteArray) (n33 n34 n35 n36 n37 n38 n39 n40 n41:Int) (l3 l4 l5 l6:Rw) (q1:Int→Bool→SV→Rw→Rs):Nat→Int→SV→SV→Rw→Rs
  | 0,_,_,_,_=>none
  | m+1,n42,v1,v2,l7 =>
    let y1:=decide (n42 < n18)
    if y1 then
     chk ((okR zr24 zo24 (t24 l4 n42))||!(!(n42==n27))) <|
     let k1:=fun (l8:Rw) =>
      let y2:=(n42==n27)||(asB (resC (t24 l4 n42) 0 0))
      la87o1 t24 t83 n1 n2 n3 n4 n5 n6 n7 n8 n9 n10 n11 n12 n13 n14 n15 n16 b1 l1 s1 b2 n17 n18 n19 n20 n21 n22 n23 n24 n25 n26 n27 n28 n29 n30 n31 n32 b3 l2 s2 n33 n34 n35 n36 n37 n38 n39 n40 n41 l3 l4 l5 l6 q1 m (w64 (n42+(1:Int))) (.d (.b y1)) (.d (.b y2)) l8
     let y3:=(n42==n27)||(asB (resC (t24 l4 n42) 0 0))
     if y3 then
      let y4:=([[.i .i64 n42]]:Rw)
      chk ((flatR 1 y4)&&decide (l7.length+y4.length≤lim)) <|
      k1 (l7++y4)
     else
      k1 l7
    else
     q1 n42 y1 (keepV [128,192,256,1280,8201,8203,8204,8205] v2) l7
def ta87 (t24:Y24) (t83:Y83) (n1 n2 n3 n4 n5 n6 n7 n8:Int) (l1:Rw) (n9:Int) (l2 l3 l4:Rw) (n10 n11 n12 n13 n14 n15 n16:Int) (b1:Bool) (l5:Rw) (s1:ByteArray):Rs :=
  let y1:=(n5 != (2:Int))||(!b1)
  if y1 then
   some ([.agg [.i .i64 n1,.i .i64 n2,.i .i64 n3,.i .i64 n4,.i .i64 n5,.i .i64 n6,.i .i64 n7,.i .i64 n8,.l l1,.i .i64 n9,.l l2,.l l3,.l l4],.one (.l ([]:Rw))],[])
  else
   la87o1 t24 t83 n1 n2 n3 n4 n5 n6 n7 n8 n9 n10 n11 n12 n13 n14 n15 n16 b1 l5 s1 y1 n1 n2 n3 n4 n5 n6 n7 n8 n9 n10 n11 n12 n13 n14 n15 n16 b1 l5 s1 (0:Int) (0:Int) (0:Int) (0:Int) (0:Int) (0:Int) (0:Int) (0:Int) (0:Int) l1 l2 l3 l4
    (fun (n17:Int) (b2:Bool) (v1:SV) (l6:Rw) =>
     if decide ((w64 ((2:Int) * (l6.length:Int))) > n2) then
      let y2:=t83 n1 n2 n3 n4 n5 n6 n7 n8 l1 n9 l6 l3 l4
      chk (okR zr83 zo83 y2) <|
      some ([.agg [.i .i64 (asI (resC y2 0 0)),.i .i64 (asI (resC y2 0 1)),.i .i64 (asI (resC y2 0 2)),.i .i64 (asI (resC y2 0 3)),.i .i64 (asI (resC y2 0 4)),.i .i64 (asI (resC y2 0 5)),.i .i64 (asI (resC y2 0 6)),.i .i64 (asI (resC y2 0 7)),.l (asL (resC y2 0 8)),.i .i64 (asI (resC y2 0 9)),.l (asL (resC y2 0 10)),.l (asL (resC y2 0 11)),.l (asL (resC y2 0 12))],.one (.l (asL (resC y2 1 0)))],[])
     else
      some ([.agg [.i .i64 n1,.i .i64 n2,.i .i64 n3,.i .i64 n4,.i .i64 n5,.i .i64 n6,.i .i64 n7,.i .i64 n8,.l l1,.i .i64 n9,.l l6,.l l3,.l l4],.one (.l ([]:Rw))],[])) KK (0:Int) SV.undef SV.undef ([]:Rw)
def t87:Y87:=ta87 t24 t83
def zr87:List DV:=[.agg [.i .i64 0,.i .i64 0,.i .i64 0,.i .i64 0,.i .i64 0,.i .i64 0,.i .i64 0,.i .i64 0,.l [],.i .i64 0,.l [],.l [],.l []],.one (.l [])]
def zo87:Rw:=[]
def A87:List TA:=[.agg [.i .i64,.i .i64,.i .i64,.i .i64,.i .i64,.i .i64,.i .i64,.i .i64,.l,.i .i64,.l,.l,.l],.agg [.i .i64,.i .i64,.i .i64,.i .i64,.i .i64,.i .i64,.i .i64,.b,.l,.s]]
abbrev Y105:=Int→Int→Int→Int→Int→Int→Int→Int→Rw→Int→Rw→Rw→Rw→Int→Bool→Int→Rs
def t105 (n1 n2 n3 n4 n5 n6 n7 n8:Int) (l1:Rw) (n9:Int) (l2 l3 l4:Rw) (n10:Int) (b1:Bool) (n11:Int):Rs :=
  some ([.one (.l ([[.i .i64 (4:Int),.i .i64 n1,.i .i64 n10,.i .i64 n3,.i .i64 n11,.i .i64 (0:Int),.i .i64 (0:Int),.b b1,.l ([]:Rw),.s (⟨#[]⟩:ByteArray)]]:Rw))],[])
def zr105:List DV:=[.one (.l [])]
def zo105:Rw:=[]
def A105:List TA:=[.agg [.i .i64,.i .i64,.i .i64,.i .i64,.i .i64,.i .i64,.i .i64,.i .i64,.l,.i .i64,.l,.l,.l],.one (.i .i64),.one (.b),.one (.i .i64)]
abbrev Y88:=Int→Int→Int→Int→Int→Int→Int→Int→Rw→Int→Rw→Rw→Rw→Int→Int→Int→Int→Int→Int→Int→Bool→Rw→ByteArray→Rs
def la88o8 (t23:Y23) (t37:Y37) (t85:Y85) (t105:Y105) (n1 n2 n3 n4 n5 n6 n7 n8 n9 n10 n11 n12 n13 n14 n15 n16:Int) (b1:Bool) (l1:Rw) (s1:ByteArray) (l2:Rw) (n17 n18:Int) (b2 b3 b4 b5 b6 b7:Bool) (n19 n20 n21 n22 n23 n24 n25 n26 n27 n28 n29 n30 n31 n32 n33 n34:Int) (b8:Bool) (l3:Rw) (s2:ByteArray) (n35 n36 n37 n38 n39 n40 n41 n42 n43:Int) (l4 l5 l6:Rw) (q1:Int→Int→Int→Bool→Bool→Bool→SV→SV→Rw→Rw→Rs) (q2:Int→Int→Int→Bool→Bool→Bool→Bool→Bool→Rw→Rs) (q3:Int→Int→SV→Bool→SV→SV→SV→SV→Rw→Rs):Nat→Int→Int→SV→SV→SV→SV→SV→SV→Rw→Rs
  | 0,_,_,_,_,_,_,_,_,_=>none
  | m+1,n44,n45,v1,v2,v3,v4,v5,v6,l7 =>
    let y1:=decide (n45 < (l2.length:Int))
    if y1 then
     let y2:=t23 n19 n20 n21 n22 n23 n24 n25 n26 l7 n27 l4 l5 l6
     chk (okR zr23 zo23 y2) <|
     let y3:=w64 ((w64 (n17+(1:Int)))+n45)
     let y4:=t37 n19 n20 n21 n22 n23 n24 n25 n26 l7 n27 l4 l5 l6 y3
     let y5:=decide (y3≤(asI (resC y2 0 0)))
     chk ((okR zr37 zo37 y4)||!y5) <|
     let y6:=l2.getD n45.toNat []
     chk ((decide (0≤n45)&&decide (n45 < l2.length)&&isRow z38 y6)||!y5) <|
     let y7:=y5&&((asI (resC y4 0 0))==(asI (nthD y6 0)))
     if y7 then
      la88o8 t23 t37 t85 t105 n1 n2 n3 n4 n5 n6 n7 n8 n9 n10 n11 n12 n13 n14 n15 n16 b1 l1 s1 l2 n17 n18 b2 b3 b4 b5 b6 b7 n19 n20 n21 n22 n23 n24 n25 n26 n27 n28 n29 n30 n31 n32 n33 n34 b8 l3 s2 n35 n36 n37 n38 n39 n40 n41 n42 n43 l4 l5 l6 q1 q2 q3 m y3 (w64 (n45+(1:Int))) (.d (.i .i64 y3)) (.d (.b y1)) (.d (.b y7)) (keepV [128,192,256,8201,8203,8204,8205] v4) (keepV [128,192,256,8201,8203,8204,8205] v5) (keepV [128,192,256,8201,8203,8204,8205] v6) l7
     else
      let y8:=decide (y3≤n27)
      if y8 then
       q1 n44 n45 y3 y1 y7 y8 v5 v6 l7 ([]:Rw)
      else
       let y9:=t23 n19 n20 n21 n22 n23 n24 n25 n26 l7 n27 l4 l5 l6
       chk (okR zr23 zo23 y9) <|
       let k2:=fun (v7:SV) (l8:Rw) =>
        let y10:=decide ((l8.length:Int) < (60:Int))
        if y10 then
         let y11:=l2.getD n45.toNat []
         chk (decide (0≤n45)&&decide (n45 < l2.length)&&isRow z38 y11) <|
         let y12:=([[.i .i64 (asI (nthD y11 0)),.s (asS (nthD y11 1))]]:Rw)
         chk ((flatR 2 y12)&&decide (l8.length+y12.length≤lim)) <|
         let y13:=decide (y3≤(asI (resC y9 0 0)))
         la88o8 t23 t37 t85 t105 n1 n2 n3 n4 n5 n6 n7 n8 n9 n10 n11 n12 n13 n14 n15 n16 b1 l1 s1 l2 n17 n18 b2 b3 b4 b5 b6 b7 n19 n20 n21 n22 n23 n24 n25 n26 n27 n28 n29 n30 n31 n32 n33 n34 b8 l3 s2 n35 n36 n37 n38 n39 n40 n41 n42 n43 l4 l5 l6 q1 q2 q3 m y3 (w64 (n45+(1:Int))) (.d (.i .i64 y3)) (.d (.b y1)) (.d (.b y7)) (.d (.b y8)) (.d (.b y13)) (.d (.b y10)) (l8++y12)
        else
         let y14:=decide (y3≤(asI (resC y9 0 0)))
         q2 n44 n45 y3 y1 y7 y8 y14 y10 l8
       let y15:=decide (y3≤(asI (resC y9 0 0)))
       if y15 then
        let y16:=w64 ((w64 (y3 - n25)) - (1:Int))
        chk (decide (0≤y16∧y16≤l7.length)) <|
        k2 (killV 8201 v6) (l7.take y16.toNat)
       else
        k2 v6 l7
    else
     q3 n44 n45 (keepV [128,192,256,8201,8203,8204,8205] v1) y1 (keepV [128,192,256,8201,8203,8204,8205] v3) (keepV [128,192,256,8201,8203,8204,8205] v4) (keepV [128,192,256,8201,8203,8204,8205] v5) (keepV [128,192,256,8201,8203,8204,8205] v6) l7
def la88o100008 (t23:Y23) (t37:Y37) (t85:Y85) (t105:Y105) (n1 n2 n3 n4 n5 n6 n7 n8 n9 n10 n11 n12 n13 n14 n15 n16:Int) (b1:Bool) (l1:Rw) (s1:ByteArray) (l2:Rw) (n17:Int) (b2 b3 b4 b5 b6:Bool) (n18 n19 n20 n21 n22 n23 n24 n25 n26 n27 n28 n29 n30 n31 n32 n33:Int) (b7:Bool) (l3:Rw) (s2:ByteArray) (n34 n35 n36 n37 n38 n39 n40 n41 n42:Int) (l4 l5 l6:Rw) (q1:Int→Int→Int→Bool→Bool→Bool→SV→SV→Rw→Rw→Rs) (q2:Int→Int→Int→Bool→Bool→Bool→Bool→Bool→Rw→Rs) (q3:Int→Int→SV→Bool→SV→SV→SV→SV→Rw→Rs):Nat→Int→Int→SV→SV→SV→SV→SV→SV→Rw→Rs
  | 0,_,_,_,_,_,_,_,_,_=>none
  | m+1,n43,n44,v1,v2,v3,v4,v5,v6,l7 =>
    let y1:=decide (n44 < (l2.length:Int))
    if y1 then
     let y2:=t23 n18 n19 n20 n21 n22 n23 n24 n25 l7 n26 l4 l5 l6
     chk (okR zr23 zo23 y2) <|
     let y3:=w64 ((w64 (n17+(1:Int)))+n44)
     let y4:=t37 n18 n19 n20 n21 n22 n23 n24 n25 l7 n26 l4 l5 l6 y3
     let y5:=decide (y3≤(asI (resC y2 0 0)))
     chk ((okR zr37 zo37 y4)||!y5) <|
     let y6:=l2.getD n44.toNat []
     chk ((decide (0≤n44)&&decide (n44 < l2.length)&&isRow z38 y6)||!y5) <|
     let y7:=y5&&((asI (resC y4 0 0))==(asI (nthD y6 0)))
     if y7 then
      la88o100008 t23 t37 t85 t105 n1 n2 n3 n4 n5 n6 n7 n8 n9 n10 n11 n12 n13 n14 n15 n16 b1 l1 s1 l2 n17 b2 b3 b4 b5 b6 n18 n19 n20 n21 n22 n23 n24 n25 n26 n27 n28 n29 n30 n31 n32 n33 b7 l3 s2 n34 n35 n36 n37 n38 n39 n40 n41 n42 l4 l5 l6 q1 q2 q3 m y3 (w64 (n44+(1:Int))) (.d (.i .i64 y3)) (.d (.b y1)) (.d (.b y7)) (keepV [128,192,256,8201,8203,8204,8205] v4) (keepV [128,192,256,8201,8203,8204,8205] v5) (keepV [128,192,256,8201,8203,8204,8205] v6) l7
     else
      let y8:=decide (y3≤n26)
      if y8 then
       q1 n43 n44 y3 y1 y7 y8 v5 v6 l7 ([]:Rw)
      else
       let y9:=t23 n18 n19 n20 n21 n22 n23 n24 n25 l7 n26 l4 l5 l6
       chk (okR zr23 zo23 y9) <|
       let k7:=fun (v7:SV) (l8:Rw) =>
        let y10:=decide ((l8.length:Int) < (60:Int))
        if y10 then
         let y11:=l2.getD n44.toNat []
         chk (decide (0≤n44)&&decide (n44 < l2.length)&&isRow z38 y11) <|
         let y12:=([[.i .i64 (asI (nthD y11 0)),.s (asS (nthD y11 1))]]:Rw)
         chk ((flatR 2 y12)&&decide (l8.length+y12.length≤lim)) <|
         let y13:=decide (y3≤(asI (resC y9 0 0)))
         la88o100008 t23 t37 t85 t105 n1 n2 n3 n4 n5 n6 n7 n8 n9 n10 n11 n12 n13 n14 n15 n16 b1 l1 s1 l2 n17 b2 b3 b4 b5 b6 n18 n19 n20 n21 n22 n23 n24 n25 n26 n27 n28 n29 n30 n31 n32 n33 b7 l3 s2 n34 n35 n36 n37 n38 n39 n40 n41 n42 l4 l5 l6 q1 q2 q3 m y3 (w64 (n44+(1:Int))) (.d (.i .i64 y3)) (.d (.b y1)) (.d (.b y7)) (.d (.b y8)) (.d (.b y13)) (.d (.b y10)) (l8++y12)
        else
         let y14:=decide (y3≤(asI (resC y9 0 0)))
         q2 n43 n44 y3 y1 y7 y8 y14 y10 l8
       let y15:=decide (y3≤(asI (resC y9 0 0)))
       if y15 then
        let y16:=w64 ((w64 (y3 - n24)) - (1:Int))
        chk (decide (0≤y16∧y16≤l7.length)) <|
        k7 (killV 8201 v6) (l7.take y16.toNat)
       else
        k7 v6 l7
    else
     q3 n43 n44 (keepV [128,192,256,8201,8203,8204,8205] v1) y1 (keepV [128,192,256,8201,8203,8204,8205] v3) (keepV [128,192,256,8201,8203,8204,8205] v4) (keepV [128,192,256,8201,8203,8204,8205] v5) (keepV [128,192,256,8201,8203,8204,8205] v6) l7
def la88o6 (t23:Y23) (t37:Y37) (t85:Y85) (t105:Y105) (n1 n2 n3 n4 n5 n6 n7 n8 n9 n10 n11 n12 n13 n14 n15 n16:Int) (b1:Bool) (l1:Rw) (s1:ByteArray) (l2:Rw) (n17 n18:Int) (b2 b3 b4 b5 b6 b7:Bool) (n19 n20 n21 n22 n23 n24 n25 n26 n27 n28 n29 n30 n31 n32 n33 n34:Int) (b8:Bool) (l3:Rw) (s2:ByteArray) (n35 n36 n37 n38 n39 n40 n41 n42 n43:Int) (l4 l5 l6 l7:Rw) (q1:Int→Bool→Rs):Nat→Int→SV→Rs
  | 0,_,_=>none
  | m+1,n44,v1 =>
    let y1:=t37 n19 n20 n21 n22 n23 n24 n25 n26 l4 n27 l5 l6 l7 n44
    let y2:=decide (n44 > n25)
    chk ((okR zr37 zo37 y1)||!y2) <|
    let y3:=y2&&((asI (resC y1 0 0))==n18)
    if y3 then
     la88o6 t23 t37 t85 t105 n1 n2 n3 n4 n5 n6 n7 n8 n9 n10 n11 n12 n13 n14 n15 n16 b1 l1 s1 l2 n17 n18 b2 b3 b4 b5 b6 b7 n19 n20 n21 n22 n23 n24 n25 n26 n27 n28 n29 n30 n31 n32 n33 n34 b8 l3 s2 n35 n36 n37 n38 n39 n40 n41 n42 n43 l4 l5 l6 l7 q1 m (w64 (n44 - (1:Int))) (.d (.b y3))
    else
     q1 n44 y3
def la88o100006 (t23:Y23) (t37:Y37) (t85:Y85) (t105:Y105) (n1 n2 n3 n4 n5 n6 n7 n8 n9 n10 n11 n12 n13 n14 n15 n16:Int) (b1:Bool) (l1:Rw) (s1:ByteArray) (l2:Rw) (n17:Int) (b2 b3 b4 b5 b6:Bool) (n18 n19 n20 n21 n22 n23 n24 n25 n26 n27 n28 n29 n30 n31 n32 n33:Int) (b7:Bool) (l3:Rw) (s2:ByteArray) (n34 n35 n36 n37 n38 n39 n40 n41 n42:Int) (l4 l5 l6 l7:Rw) (q1:Int→Bool→Rs):Nat→Int→SV→Rs
  | 0,_,_=>none
  | m+1,n43,v1 =>
    let y1:=t37 n18 n19 n20 n21 n22 n23 n24 n25 l4 n26 l5 l6 l7 n43
    let y2:=decide (n43 > n24)
    chk ((okR zr37 zo37 y1)||!y2) <|
    let y3:=y2&&((asI (resC y1 0 0))==n17)
    if y3 then
     la88o100006 t23 t37 t85 t105 n1 n2 n3 n4 n5 n6 n7 n8 n9 n10 n11 n12 n13 n14 n15 n16 b1 l1 s1 l2 n17 b2 b3 b4 b5 b6 n18 n19 n20 n21 n22 n23 n24 n25 n26 n27 n28 n29 n30 n31 n32 n33 b7 l3 s2 n34 n35 n36 n37 n38 n39 n40 n41 n42 l4 l5 l6 l7 q1 m (w64 (n43 - (1:Int))) (.d (.b y3))
    else
     q1 n43 y3
def ta88 (t23:Y23) (t37:Y37) (t85:Y85) (t105:Y105) (n1 n2 n3 n4 n5 n6 n7 n8:Int) (l1:Rw) (n9:Int) (l2 l3 l4:Rw) (n10 n11 n12 n13 n14 n15 n16:Int) (b1:Bool) (l5:Rw) (s1:ByteArray):Rs :=
  let y1:=n5==(3:Int)
  if y1 then
   some ([.agg [.i .i64 n1,.i .i64 n2,.i .i64 n3,.i .i64 n4,.i .i64 n5,.i .i64 n6,.i .i64 n7,.i .i64 n8,.l l1,.i .i64 n9,.l l2,.l l3,.l l4],.one (.l ([]:Rw))],[])
  else
   let y2:=t85 n1 n2 n3 n4 n5 n6 n7 n8 l1 n9 l2 l3 l4 n3
   chk (okR zr85 zo85 y2) <|
   let y3:=asI (resC y2 0 6)
   let y4:=decide (n14 < y3)
   if y4 then
    let k1:=fun (n17:Int) =>
     chk (decide (0≤n17∧n17≤l5.length∧(l5.getD 0 z38).length=z38.length)) <|
     let y5:=l5.drop n17.toNat
     let y6:=y5.getD (0:Int).toNat []
     let y7:=(y3==y3)&&(decide ((y5.length:Int) > (0:Int)))
     chk ((decide (0≤(0:Int))&&decide ((0:Int) < y5.length)&&isRow z38 y6)||!y7) <|
     let y8:=asI (resC y2 0 7)
     let y9:=y7&&(decide ((asI (nthD y6 0)) < y8))
     if y9 then
      let y10:=asI (resC y2 0 0)
      let y11:=asI (resC y2 0 1)
      let y12:=asI (resC y2 0 2)
      let y13:=asI (resC y2 0 3)
      let y14:=asI (resC y2 0 4)
      let y15:=asL (resC y2 0 8)
      let y16:=asI (resC y2 0 9)
      let y17:=asL (resC y2 0 10)
      let y18:=asL (resC y2 0 11)
      let y19:=asL (resC y2 0 12)
      some ([.agg [.i .i64 y10,.i .i64 y11,.i .i64 y12,.i .i64 y13,.i .i64 y14,.i .i64 n11,.i .i64 y3,.i .i64 y8,.l y15,.i .i64 y16,.l y17,.l y18,.l y19],.one (.l ([]:Rw))],[])
     else
      let y20:=asI (resC y2 0 0)
      let y21:=asI (resC y2 0 1)
      let y22:=asI (resC y2 0 2)
      let y23:=asI (resC y2 0 3)
      let y24:=asI (resC y2 0 4)
      let y25:=asL (resC y2 0 8)
      let y26:=asI (resC y2 0 9)
      let y27:=asL (resC y2 0 10)
      let y28:=asL (resC y2 0 11)
      let y29:=asL (resC y2 0 12)
      let y30:=t23 y20 y21 y22 y23 y24 n11 y3 y8 y25 y26 y27 y28 y29
      chk (okR zr23 zo23 y30) <|
      let y31:=decide (y3 > (asI (resC y30 0 0)))
      if y31 then
       let y32:=t23 y20 y21 y22 y23 y24 n11 y3 y8 y25 y26 y27 y28 y29
       chk (okR zr23 zo23 y32) <|
       let y33:=t105 y20 y21 y22 y23 y24 n11 y3 y8 y25 y26 y27 y28 y29 n11 false (asI (resC y32 0 0))
       chk (okR zr105 zo105 y33) <|
       some ([.agg [.i .i64 y20,.i .i64 y21,.i .i64 y22,.i .i64 y23,.i .i64 y24,.i .i64 n11,.i .i64 y3,.i .i64 y8,.l y25,.i .i64 y26,.l y27,.l y28,.l y29],.one (.l (asL (resC y33 0 0)))],[])
      else
       let y34:=t37 y20 y21 y22 y23 y24 n11 y3 y8 y25 y26 y27 y28 y29 y3
       let y35:=decide (y3 > y3)
       chk ((okR zr37 zo37 y34)||!y35) <|
       let y36:=y35&&((asI (resC y34 0 0)) != n15)
       if y36 then
        let y37:=t37 y20 y21 y22 y23 y24 n11 y3 y8 y25 y26 y27 y28 y29 y3
        chk (okR zr37 zo37 y37) <|
        let y38:=w64 (y3 - n14)
        let y39:=decide (y38 > (l5.length:Int))
        la88o6 t23 t37 t85 t105 n1 n2 n3 n4 n5 n6 n7 n8 n9 n10 n11 n12 n13 n14 n15 n16 b1 l5 s1 y5 n17 (asI (resC y37 0 0)) y1 y4 y39 y9 y31 y36 y20 y21 y22 y23 y24 n11 y3 y8 y26 n10 n11 n12 n13 n14 n15 n16 b1 l5 s1 (0:Int) (0:Int) (0:Int) (0:Int) (0:Int) (0:Int) (0:Int) (0:Int) (0:Int) y25 y27 y28 y29
         (fun (n18:Int) (b2:Bool) =>
          let y40:=t105 y20 y21 y22 y23 y24 n11 y3 y8 y25 y26 y27 y28 y29 n11 false n18
          chk (okR zr105 zo105 y40) <|
          some ([.agg [.i .i64 y20,.i .i64 y21,.i .i64 y22,.i .i64 y23,.i .i64 y24,.i .i64 n11,.i .i64 y3,.i .i64 y8,.l y25,.i .i64 y26,.l y27,.l y28,.l y29],.one (.l (asL (resC y40 0 0)))],[])) KK y3 SV.undef
       else
        let y41:=w64 (y3 - n14)
        let y42:=decide (y41 > (l5.length:Int))
        la88o8 t23 t37 t85 t105 n1 n2 n3 n4 n5 n6 n7 n8 n9 n10 n11 n12 n13 n14 n15 n16 b1 l5 s1 y5 y3 n17 y1 y4 y42 y9 y31 y36 y20 y21 y22 y23 y24 n11 y3 y8 y26 n10 n11 n12 n13 n14 n15 n16 b1 l5 s1 (0:Int) (0:Int) (0:Int) (0:Int) (0:Int) (0:Int) (0:Int) (0:Int) (0:Int) y27 y28 y29
         (fun (n19 n20 n21:Int) (b3 b4 b5:Bool) (v1 v2:SV) (l6 l7:Rw) =>
          some ([.agg [.i .i64 y20,.i .i64 y21,.i .i64 y22,.i .i64 y23,.i .i64 y24,.i .i64 n11,.i .i64 y3,.i .i64 y8,.l l6,.i .i64 y26,.l y27,.l y28,.l y29],.one (.l l7)],[]))
         (fun (n22 n23 n24:Int) (b6 b7 b8 b9 b10:Bool) (l8:Rw) =>
          if decide (n16 < n22) then
           let k3:=fun (n25:Int) =>
            let y43:=t105 y20 y21 y22 y23 y24 n11 y3 y8 l8 n25 y27 y28 y29 n11 true n22
            chk (okR zr105 zo105 y43) <|
            some ([.agg [.i .i64 y20,.i .i64 y21,.i .i64 y22,.i .i64 y23,.i .i64 y24,.i .i64 n11,.i .i64 y3,.i .i64 y8,.l l8,.i .i64 n25,.l y27,.l y28,.l y29],.one (.l (asL (resC y43 0 0)))],[])
           if decide (n16 > y26) then
            k3 n16
           else
            k3 y26
          else
           let k4:=fun (n26:Int) =>
            let y44:=t105 y20 y21 y22 y23 y24 n11 y3 y8 l8 n26 y27 y28 y29 n11 true n22
            chk (okR zr105 zo105 y44) <|
            some ([.agg [.i .i64 y20,.i .i64 y21,.i .i64 y22,.i .i64 y23,.i .i64 y24,.i .i64 n11,.i .i64 y3,.i .i64 y8,.l l8,.i .i64 n26,.l y27,.l y28,.l y29],.one (.l (asL (resC y44 0 0)))],[])
           if decide (n22 > y26) then
            k4 n22
           else
            k4 y26)
         (fun (n27 n28:Int) (v3:SV) (b11:Bool) (v4 v5 v6 v7:SV) (l9:Rw) =>
          if decide (n16 < n27) then
           let k5:=fun (n29:Int) =>
            let y45:=t105 y20 y21 y22 y23 y24 n11 y3 y8 l9 n29 y27 y28 y29 n11 true n27
            chk (okR zr105 zo105 y45) <|
            some ([.agg [.i .i64 y20,.i .i64 y21,.i .i64 y22,.i .i64 y23,.i .i64 y24,.i .i64 n11,.i .i64 y3,.i .i64 y8,.l l9,.i .i64 n29,.l y27,.l y28,.l y29],.one (.l (asL (resC y45 0 0)))],[])
           if decide (n16 > y26) then
            k5 n16
           else
            k5 y26
          else
           let k6:=fun (n30:Int) =>
            let y46:=t105 y20 y21 y22 y23 y24 n11 y3 y8 l9 n30 y27 y28 y29 n11 true n27
            chk (okR zr105 zo105 y46) <|
            some ([.agg [.i .i64 y20,.i .i64 y21,.i .i64 y22,.i .i64 y23,.i .i64 y24,.i .i64 n11,.i .i64 y3,.i .i64 y8,.l l9,.i .i64 n30,.l y27,.l y28,.l y29],.one (.l (asL (resC y46 0 0)))],[])
           if decide (n27 > y26) then
            k6 n27
           else
            k6 y26) KK y3 (0:Int) SV.undef SV.undef SV.undef SV.undef SV.undef SV.undef y25
    let y47:=w64 (y3 - n14)
    let y48:=decide (y47 > (l5.length:Int))
    if y48 then
     k1 (l5.length:Int)
    else
     k1 y47
   else
    let y49:=l5.getD (0:Int).toNat []
    let y50:=(n14==y3)&&(decide ((l5.length:Int) > (0:Int)))
    chk ((decide (0≤(0:Int))&&decide ((0:Int) < l5.length)&&isRow z38 y49)||!y50) <|
    let y51:=asI (resC y2 0 7)
    let y52:=y50&&(decide ((asI (nthD y49 0)) < y51))
    if y52 then
     let y53:=asI (resC y2 0 0)
     let y54:=asI (resC y2 0 1)
     let y55:=asI (resC y2 0 2)
     let y56:=asI (resC y2 0 3)
     let y57:=asI (resC y2 0 4)
     let y58:=asL (resC y2 0 8)
     let y59:=asI (resC y2 0 9)
     let y60:=asL (resC y2 0 10)
     let y61:=asL (resC y2 0 11)
     let y62:=asL (resC y2 0 12)
     some ([.agg [.i .i64 y53,.i .i64 y54,.i .i64 y55,.i .i64 y56,.i .i64 y57,.i .i64 n11,.i .i64 y3,.i .i64 y51,.l y58,.i .i64 y59,.l y60,.l y61,.l y62],.one (.l ([]:Rw))],[])
    else
     let y63:=asI (resC y2 0 0)
     let y64:=asI (resC y2 0 1)
     let y65:=asI (resC y2 0 2)
     let y66:=asI (resC y2 0 3)
     let y67:=asI (resC y2 0 4)
     let y68:=asL (resC y2 0 8)
     let y69:=asI (resC y2 0 9)
     let y70:=asL (resC y2 0 10)
     let y71:=asL (resC y2 0 11)
     let y72:=asL (resC y2 0 12)
     let y73:=t23 y63 y64 y65 y66 y67 n11 y3 y51 y68 y69 y70 y71 y72
     chk (okR zr23 zo23 y73) <|
     let y74:=decide (n14 > (asI (resC y73 0 0)))
     if y74 then
      let y75:=t23 y63 y64 y65 y66 y67 n11 y3 y51 y68 y69 y70 y71 y72
      chk (okR zr23 zo23 y75) <|
      let y76:=t105 y63 y64 y65 y66 y67 n11 y3 y51 y68 y69 y70 y71 y72 n11 false (asI (resC y75 0 0))
      chk (okR zr105 zo105 y76) <|
      some ([.agg [.i .i64 y63,.i .i64 y64,.i .i64 y65,.i .i64 y66,.i .i64 y67,.i .i64 n11,.i .i64 y3,.i .i64 y51,.l y68,.i .i64 y69,.l y70,.l y71,.l y72],.one (.l (asL (resC y76 0 0)))],[])
     else
      let y77:=t37 y63 y64 y65 y66 y67 n11 y3 y51 y68 y69 y70 y71 y72 n14
      let y78:=decide (n14 > y3)
      chk ((okR zr37 zo37 y77)||!y78) <|
      let y79:=y78&&((asI (resC y77 0 0)) != n15)
      if y79 then
       let y80:=t37 y63 y64 y65 y66 y67 n11 y3 y51 y68 y69 y70 y71 y72 n14
       chk (okR zr37 zo37 y80) <|
       la88o100006 t23 t37 t85 t105 n1 n2 n3 n4 n5 n6 n7 n8 n9 n10 n11 n12 n13 n14 n15 n16 b1 l5 s1 l5 (asI (resC y80 0 0)) y1 y4 y52 y74 y79 y63 y64 y65 y66 y67 n11 y3 y51 y69 n10 n11 n12 n13 n14 n15 n16 b1 l5 s1 (0:Int) (0:Int) (0:Int) (0:Int) (0:Int) (0:Int) (0:Int) (0:Int) (0:Int) y68 y70 y71 y72
        (fun (n31:Int) (b12:Bool) =>
         let y81:=t105 y63 y64 y65 y66 y67 n11 y3 y51 y68 y69 y70 y71 y72 n11 false n31
         chk (okR zr105 zo105 y81) <|
         some ([.agg [.i .i64 y63,.i .i64 y64,.i .i64 y65,.i .i64 y66,.i .i64 y67,.i .i64 n11,.i .i64 y3,.i .i64 y51,.l y68,.i .i64 y69,.l y70,.l y71,.l y72],.one (.l (asL (resC y81 0 0)))],[])) KK n14 SV.undef
      else
       la88o100008 t23 t37 t85 t105 n1 n2 n3 n4 n5 n6 n7 n8 n9 n10 n11 n12 n13 n14 n15 n16 b1 l5 s1 l5 n14 y1 y4 y52 y74 y79 y63 y64 y65 y66 y67 n11 y3 y51 y69 n10 n11 n12 n13 n14 n15 n16 b1 l5 s1 (0:Int) (0:Int) (0:Int) (0:Int) (0:Int) (0:Int) (0:Int) (0:Int) (0:Int) y70 y71 y72
        (fun (n32 n33 n34:Int) (b13 b14 b15:Bool) (v8 v9:SV) (l10 l11:Rw) =>
         some ([.agg [.i .i64 y63,.i .i64 y64,.i .i64 y65,.i .i64 y66,.i .i64 y67,.i .i64 n11,.i .i64 y3,.i .i64 y51,.l l10,.i .i64 y69,.l y70,.l y71,.l y72],.one (.l l11)],[]))
        (fun (n35 n36 n37:Int) (b16 b17 b18 b19 b20:Bool) (l12:Rw) =>
         if decide (n16 < n35) then
          let k8:=fun (n38:Int) =>
           let y82:=t105 y63 y64 y65 y66 y67 n11 y3 y51 l12 n38 y70 y71 y72 n11 true n35
           chk (okR zr105 zo105 y82) <|
           some ([.agg [.i .i64 y63,.i .i64 y64,.i .i64 y65,.i .i64 y66,.i .i64 y67,.i .i64 n11,.i .i64 y3,.i .i64 y51,.l l12,.i .i64 n38,.l y70,.l y71,.l y72],.one (.l (asL (resC y82 0 0)))],[])
          if decide (n16 > y69) then
           k8 n16
          else
           k8 y69
         else
          let k9:=fun (n39:Int) =>
           let y83:=t105 y63 y64 y65 y66 y67 n11 y3 y51 l12 n39 y70 y71 y72 n11 true n35
           chk (okR zr105 zo105 y83) <|
           some ([.agg [.i .i64 y63,.i .i64 y64,.i .i64 y65,.i .i64 y66,.i .i64 y67,.i .i64 n11,.i .i64 y3,.i .i64 y51,.l l12,.i .i64 n39,.l y70,.l y71,.l y72],.one (.l (asL (resC y83 0 0)))],[])
          if decide (n35 > y69) then
           k9 n35
          else
           k9 y69)
        (fun (n40 n41:Int) (v10:SV) (b21:Bool) (v11 v12 v13 v14:SV) (l13:Rw) =>
         if decide (n16 < n40) then
          let k10:=fun (n42:Int) =>
           let y84:=t105 y63 y64 y65 y66 y67 n11 y3 y51 l13 n42 y70 y71 y72 n11 true n40
           chk (okR zr105 zo105 y84) <|
           some ([.agg [.i .i64 y63,.i .i64 y64,.i .i64 y65,.i .i64 y66,.i .i64 y67,.i .i64 n11,.i .i64 y3,.i .i64 y51,.l l13,.i .i64 n42,.l y70,.l y71,.l y72],.one (.l (asL (resC y84 0 0)))],[])
          if decide (n16 > y69) then
           k10 n16
          else
           k10 y69
         else
          let k11:=fun (n43:Int) =>
           let y85:=t105 y63 y64 y65 y66 y67 n11 y3 y51 l13 n43 y70 y71 y72 n11 true n40
           chk (okR zr105 zo105 y85) <|
           some ([.agg [.i .i64 y63,.i .i64 y64,.i .i64 y65,.i .i64 y66,.i .i64 y67,.i .i64 n11,.i .i64 y3,.i .i64 y51,.l l13,.i .i64 n43,.l y70,.l y71,.l y72],.one (.l (asL (resC y85 0 0)))],[])
          if decide (n40 > y69) then
           k11 n40
          else
           k11 y69) KK n14 (0:Int) SV.undef SV.undef SV.undef SV.undef SV.undef SV.undef y68
def t88:Y88:=ta88 t23 t37 t85 t105
def zr88:List DV:=[.agg [.i .i64 0,.i .i64 0,.i .i64 0,.i .i64 0,.i .i64 0,.i .i64 0,.i .i64 0,.i .i64 0,.l [],.i .i64 0,.l [],.l [],.l []],.one (.l [])]
def zo88:Rw:=[]
def A88:List TA:=[.agg [.i .i64,.i .i64,.i .i64,.i .i64,.i .i64,.i .i64,.i .i64,.i .i64,.l,.i .i64,.l,.l,.l],.agg [.i .i64,.i .i64,.i .i64,.i .i64,.i .i64,.i .i64,.i .i64,.b,.l,.s]]
abbrev Y89:=Int→Int→Int→Int→Int→Int→Int→Int→Rw→Int→Rw→Rw→Rw→Int→Int→Int→Int→Int→Int→Int→Bool→Rw→ByteArray→Rs
def ta89 (t23:Y23) (t60:Y60) (t61:Y61) (n1 n2 n3 n4 n5 n6 n7 n8:Int) (l1:Rw) (n9:Int) (l2 l3 l4:Rw) (n10 n11 n12 n13 n14 n15 n16:Int) (b1:Bool) (l5:Rw) (s1:ByteArray):Rs :=
  if n5 != (3:Int) then
   some ([.agg [.i .i64 n1,.i .i64 n2,.i .i64 n3,.i .i64 n4,.i .i64 n5,.i .i64 n6,.i .i64 n7,.i .i64 n8,.l l1,.i .i64 n9,.l l2,.l l3,.l l4],.one (.l ([]:Rw))],[])
  else
   if b1 then
    let y1:=t23 n1 n2 n3 n4 n5 n6 n7 n8 l1 n9 l2 l3 l4
    chk (okR zr23 zo23 y1) <|
    let k1:=fun (n17:Int) =>
     chk (decide (0≤n11)&&decide (n11 < l4.length)) <|
     let y2:=l4.getD (n11.toNat) []
     chk (decide (1≤y2.length)&&isF z3 0 y2) <|
     if decide (n17≤(asI (nthD y2 0))) then
      some ([.agg [.i .i64 n1,.i .i64 n2,.i .i64 n3,.i .i64 n4,.i .i64 n5,.i .i64 n6,.i .i64 n7,.i .i64 n8,.l l1,.i .i64 n9,.l l2,.l l3,.l l4],.one (.l ([]:Rw))],[])
     else
      chk (decide (0≤n11)&&decide (n11 < l4.length)) <|
      chk (decide (1≤1∧(n11.toNat) < l4.length)) <|
      chk (decide (0≤n11)&&decide (n11 < l3.length)) <|
      chk (decide (1≤1∧(n11.toNat) < l3.length)) <|
      let y3:=t60 n1 n2 n3 n4 n5 n6 n7 n8 l1 n9 l2 (stR l3 (n11.toNat) 0 [.i .i64 (w64 (n17+(1:Int)))]) (stR l4 (n11.toNat) 0 [.i .i64 n17])
      chk (okR zr60 zo60 y3) <|
      let y4:=asL (resC y3 0 11)
      chk (decide (0≤n11)&&decide (n11 < y4.length)) <|
      let y5:=y4.getD (n11.toNat) []
      chk (decide (1≤y5.length)&&isF z3 0 y5) <|
      let y6:=asI (resC y3 0 0)
      let y7:=asI (resC y3 0 1)
      let y8:=asI (resC y3 0 2)
      let y9:=asI (resC y3 0 3)
      let y10:=asI (resC y3 0 4)
      let y11:=asI (resC y3 0 5)
      let y12:=asI (resC y3 0 6)
      let y13:=asI (resC y3 0 7)
      let y14:=asL (resC y3 0 8)
      let y15:=asI (resC y3 0 9)
      let y16:=asL (resC y3 0 10)
      let y17:=asL (resC y3 0 12)
      let y18:=t23 y6 y7 y8 y9 y10 y11 y12 y13 y14 y15 y16 y4 y17
      chk (okR zr23 zo23 y18) <|
      if decide ((asI (nthD y5 0))≤(asI (resC y18 0 0))) then
       let y19:=t61 y6 y7 y8 y9 y10 y11 y12 y13 y14 y15 y16 y4 y17 n11
       chk (okR zr61 zo61 y19) <|
       some ([.agg [.i .i64 y6,.i .i64 y7,.i .i64 y8,.i .i64 y9,.i .i64 y10,.i .i64 y11,.i .i64 y12,.i .i64 y13,.l y14,.i .i64 y15,.l y16,.l y4,.l y17],.one (.l ([[.i .i64 (asI (resC y19 0 0)),.i .i64 (asI (resC y19 0 1)),.i .i64 (asI (resC y19 0 2)),.i .i64 (asI (resC y19 0 3)),.i .i64 (asI (resC y19 0 4)),.i .i64 (asI (resC y19 0 5)),.i .i64 (asI (resC y19 0 6)),.b (asB (resC y19 0 7)),.l (asL (resC y19 0 8)),.s (asS (resC y19 0 9))]]:Rw))],[])
      else
       some ([.agg [.i .i64 y6,.i .i64 y7,.i .i64 y8,.i .i64 y9,.i .i64 y10,.i .i64 y11,.i .i64 y12,.i .i64 y13,.l y14,.i .i64 y15,.l y16,.l y4,.l y17],.one (.l ([]:Rw))],[])
    if decide (n14 > (asI (resC y1 0 0))) then
     let y20:=t23 n1 n2 n3 n4 n5 n6 n7 n8 l1 n9 l2 l3 l4
     chk (okR zr23 zo23 y20) <|
     k1 (asI (resC y20 0 0))
    else
     k1 n14
   else
    chk (decide (0≤n11)&&decide (n11 < l3.length)) <|
    let y21:=l3.getD (n11.toNat) []
    chk (decide (1≤y21.length)&&isF z3 0 y21) <|
    let k2:=fun (n18:Int) =>
     chk (decide (0≤n11)&&decide (n11 < l4.length)) <|
     let y22:=l4.getD (n11.toNat) []
     chk (decide (1≤y22.length)&&isF z3 0 y22) <|
     let k3:=fun (n19:Int) =>
      chk (decide (0≤n11)&&decide (n11 < l3.length)) <|
      let y23:=l3.getD (n11.toNat) []
      chk (decide (1≤y23.length)&&isF z3 0 y23) <|
      if decide (n19 ≥ (asI (nthD y23 0))) then
       some ([.agg [.i .i64 n1,.i .i64 n2,.i .i64 n3,.i .i64 n4,.i .i64 n5,.i .i64 n6,.i .i64 n7,.i .i64 n8,.l l1,.i .i64 n9,.l l2,.l l3,.l l4],.one (.l ([]:Rw))],[])
      else
       chk (decide (0≤n11)&&decide (n11 < l3.length)) <|
       chk (decide (1≤1∧(n11.toNat) < l3.length)) <|
       let y24:=stR l3 (n11.toNat) 0 [.i .i64 n19]
       let y25:=t61 n1 n2 n3 n4 n5 n6 n7 n8 l1 n9 l2 y24 l4 n11
       chk (okR zr61 zo61 y25) <|
       some ([.agg [.i .i64 n1,.i .i64 n2,.i .i64 n3,.i .i64 n4,.i .i64 n5,.i .i64 n6,.i .i64 n7,.i .i64 n8,.l l1,.i .i64 n9,.l l2,.l y24,.l l4],.one (.l ([[.i .i64 (asI (resC y25 0 0)),.i .i64 (asI (resC y25 0 1)),.i .i64 (asI (resC y25 0 2)),.i .i64 (asI (resC y25 0 3)),.i .i64 (asI (resC y25 0 4)),.i .i64 (asI (resC y25 0 5)),.i .i64 (asI (resC y25 0 6)),.b (asB (resC y25 0 7)),.l (asL (resC y25 0 8)),.s (asS (resC y25 0 9))]]:Rw))],[])
     if decide (n18 < (w64 ((asI (nthD y22 0))+(1:Int)))) then
      chk (decide (0≤n11)&&decide (n11 < l4.length)) <|
      let y26:=l4.getD (n11.toNat) []
      chk (decide (1≤y26.length)&&isF z3 0 y26) <|
      k3 (w64 ((asI (nthD y26 0))+(1:Int)))
     else
      k3 n18
    let y27:=w64 ((asI (nthD y21 0)) - (1:Int))
    if decide ((w64 (n14+(1:Int))) < y27) then
     k2 (w64 (n14+(1:Int)))
    else
     k2 y27
def t89:Y89:=ta89 t23 t60 t61
def zr89:List DV:=[.agg [.i .i64 0,.i .i64 0,.i .i64 0,.i .i64 0,.i .i64 0,.i .i64 0,.i .i64 0,.i .i64 0,.l [],.i .i64 0,.l [],.l [],.l []],.one (.l [])]
def zo89:Rw:=[]
def A89:List TA:=[.agg [.i .i64,.i .i64,.i .i64,.i .i64,.i .i64,.i .i64,.i .i64,.i .i64,.l,.i .i64,.l,.l,.l],.agg [.i .i64,.i .i64,.i .i64,.i .i64,.i .i64,.i .i64,.i .i64,.b,.l,.s]]
abbrev Y90:=Int→Int→Int→Int→Int→Int→Int→Int→Rw→Int→Rw→Rw→Rw→Int→Int→Int→Int→Int→Int→Int→Bool→Rw→ByteArray→Rs
def ta90 (t23:Y23) (t37:Y37) (t85:Y85) (t105:Y105) (n1 n2 n3 n4 n5 n6 n7 n8:Int) (l1:Rw) (n9:Int) (l2 l3 l4:Rw) (n10 n11 n12 n13 n14 n15 n16:Int) (b1:Bool) (l5:Rw) (s1:ByteArray):Rs :=
  if n5==(3:Int) then
   some ([.agg [.i .i64 n1,.i .i64 n2,.i .i64 n3,.i .i64 n4,.i .i64 n5,.i .i64 n6,.i .i64 n7,.i .i64 n8,.l l1,.i .i64 n9,.l l2,.l l3,.l l4],.one (.l ([]:Rw))],[])
  else
   let y1:=t85 n1 n2 n3 n4 n5 n6 n7 n8 l1 n9 l2 l3 l4 n3
   chk (okR zr85 zo85 y1) <|
   let y2:=asI (resC y1 0 9)
   if decide (n14≤y2) then
    let y3:=asI (resC y1 0 0)
    let y4:=asI (resC y1 0 1)
    let y5:=asI (resC y1 0 2)
    let y6:=asI (resC y1 0 3)
    let y7:=asI (resC y1 0 4)
    let y8:=asI (resC y1 0 6)
    let y9:=asI (resC y1 0 7)
    let y10:=asL (resC y1 0 8)
    let y11:=asL (resC y1 0 10)
    let y12:=asL (resC y1 0 11)
    let y13:=asL (resC y1 0 12)
    let y14:=t105 y3 y4 y5 y6 y7 n11 y8 y9 y10 y2 y11 y12 y13 n11 true y2
    chk (okR zr105 zo105 y14) <|
    some ([.agg [.i .i64 y3,.i .i64 y4,.i .i64 y5,.i .i64 y6,.i .i64 y7,.i .i64 n11,.i .i64 y8,.i .i64 y9,.l y10,.i .i64 y2,.l y11,.l y12,.l y13],.one (.l (asL (resC y14 0 0)))],[])
   else
    let y15:=asI (resC y1 0 0)
    let y16:=asI (resC y1 0 1)
    let y17:=asI (resC y1 0 2)
    let y18:=asI (resC y1 0 3)
    let y19:=asI (resC y1 0 4)
    let y20:=asI (resC y1 0 6)
    let y21:=asI (resC y1 0 7)
    let y22:=asL (resC y1 0 8)
    let y23:=asL (resC y1 0 10)
    let y24:=asL (resC y1 0 11)
    let y25:=asL (resC y1 0 12)
    let y26:=t23 y15 y16 y17 y18 y19 n11 y20 y21 y22 y2 y23 y24 y25
    chk (okR zr23 zo23 y26) <|
    let y27:=t37 y15 y16 y17 y18 y19 n11 y20 y21 y22 y2 y23 y24 y25 n14
    let y28:=decide (n14≤(asI (resC y26 0 0)))
    chk ((okR zr37 zo37 y27)||!y28) <|
    if y28&&((asI (resC y27 0 0))==n15) then
     let y29:=w64 (n14 - y20)
     chk (decide (0≤y29∧y29≤y22.length)) <|
     let y30:=y22.drop y29.toNat
     let y31:=t105 y15 y16 y17 y18 y19 n11 n14 n15 y30 n14 y23 y24 y25 n11 true n14
     chk (okR zr105 zo105 y31) <|
     some ([.agg [.i .i64 y15,.i .i64 y16,.i .i64 y17,.i .i64 y18,.i .i64 y19,.i .i64 n11,.i .i64 n14,.i .i64 n15,.l y30,.i .i64 n14,.l y23,.l y24,.l y25],.one (.l (asL (resC y31 0 0)))],[])
    else
     let y32:=t105 y15 y16 y17 y18 y19 n11 n14 n15 ([]:Rw) n14 y23 y24 y25 n11 true n14
     chk (okR zr105 zo105 y32) <|
     some ([.agg [.i .i64 y15,.i .i64 y16,.i .i64 y17,.i .i64 y18,.i .i64 y19,.i .i64 n11,.i .i64 n14,.i .i64 n15,.l ([]:Rw),.i .i64 n14,.l y23,.l y24,.l y25],.one (.l (asL (resC y32 0 0)))],[])
def t90:Y90:=ta90 t23 t37 t85 t105
def zr90:List DV:=[.agg [.i .i64 0,.i .i64 0,.i .i64 0,.i .i64 0,.i .i64 0,.i .i64 0,.i .i64 0,.i .i64 0,.l [],.i .i64 0,.l [],.l [],.l []],.one (.l [])]
def zo90:Rw:=[]
def A90:List TA:=[.agg [.i .i64,.i .i64,.i .i64,.i .i64,.i .i64,.i .i64,.i .i64,.i .i64,.l,.i .i64,.l,.l,.l],.agg [.i .i64,.i .i64,.i .i64,.i .i64,.i .i64,.i .i64,.i .i64,.b,.l,.s]]
abbrev Y78:=Int→Int→Int→Int→Int→Int→Int→Int→Rw→Int→Rw→Rw→Rw→Int→Int→Int→Int→Int→Int→Int→Bool→Rw→ByteArray→Rs
def ta78 (t7:Y7) (t31:Y31) (t84:Y84) (t85:Y85) (t86:Y86) (t87:Y87) (t88:Y88) (t89:Y89) (t90:Y90) (n1 n2 n3 n4 n5 n6 n7 n8:Int) (l1:Rw) (n9:Int) (l2 l3 l4:Rw) (n10 n11 n12 n13 n14 n15 n16:Int) (b1:Bool) (l5:Rw) (s1:ByteArray):Rs :=
  let y1:=t7 n1 n2 n3 n4 n5 n6 n7 n8 l1 n9 l2 l3 l4
  chk (okR zr7 zo7 y1) <|
  if !(asB (resC y1 0 0)) then
   some ([.agg [.i .i64 (0:Int),.i .i64 (0:Int),.i .i64 (0:Int),.i .i64 (0:Int),.i .i64 (0:Int),.i .i64 (0:Int),.i .i64 (0:Int),.i .i64 (0:Int),.l ([]:Rw),.i .i64 (0:Int),.l ([]:Rw),.l ([]:Rw),.l ([]:Rw)],.one (.l ([]:Rw))],[])
  else
   let y2:=t31 n1 n2 n3 n4 n5 n6 n7 n8 l1 n9 l2 l3 l4
   chk (okR zr31 zo31 y2) <|
   let y3:=t84 n10 n11 n12 n13 n14 n15 n16 b1 l5 s1
   chk (okR zr84 zo84 y3) <|
   let y4:=asI (resC y2 0 0)
   let y5:=asI (resC y2 0 1)
   if (((!(asB (resC y3 0 0)))||(n12 != y4))||(decide (n11 ≥ y5)))||(decide (n10 > (5:Int))) then
    let y6:=asI (resC y2 0 2)
    let y7:=asI (resC y2 0 3)
    let y8:=asI (resC y2 0 4)
    let y9:=asI (resC y2 0 5)
    let y10:=asI (resC y2 0 6)
    let y11:=asI (resC y2 0 7)
    let y12:=asL (resC y2 0 8)
    let y13:=asI (resC y2 0 9)
    let y14:=asL (resC y2 0 10)
    let y15:=asL (resC y2 0 11)
    let y16:=asL (resC y2 0 12)
    some ([.agg [.i .i64 y4,.i .i64 y5,.i .i64 y6,.i .i64 y7,.i .i64 y8,.i .i64 y9,.i .i64 y10,.i .i64 y11,.l y12,.i .i64 y13,.l y14,.l y15,.l y16],.one (.l ([]:Rw))],[])
   else
    let y17:=asI (resC y2 0 2)
    if decide (n13 < y17) then
     if n10==(1:Int) then
      let y18:=asI (resC y2 0 3)
      let y19:=asI (resC y2 0 4)
      let y20:=asI (resC y2 0 5)
      let y21:=asI (resC y2 0 6)
      let y22:=asI (resC y2 0 7)
      let y23:=asL (resC y2 0 8)
      let y24:=asI (resC y2 0 9)
      let y25:=asL (resC y2 0 10)
      let y26:=asL (resC y2 0 11)
      let y27:=asL (resC y2 0 12)
      some ([.agg [.i .i64 y4,.i .i64 y5,.i .i64 y17,.i .i64 y18,.i .i64 y19,.i .i64 y20,.i .i64 y21,.i .i64 y22,.l y23,.i .i64 y24,.l y25,.l y26,.l y27],.one (.l ([[.i .i64 (2:Int),.i .i64 y4,.i .i64 n11,.i .i64 y17,.i .i64 (0:Int),.i .i64 (0:Int),.i .i64 (0:Int),.b false,.l ([]:Rw),.s (⟨#[]⟩:ByteArray)]]:Rw))],[])
     else
      let k1:=fun (b2:Bool) =>
       if b2 then
        let y28:=asI (resC y2 0 3)
        let y29:=asI (resC y2 0 4)
        let y30:=asI (resC y2 0 5)
        let y31:=asI (resC y2 0 6)
        let y32:=asI (resC y2 0 7)
        let y33:=asL (resC y2 0 8)
        let y34:=asI (resC y2 0 9)
        let y35:=asL (resC y2 0 10)
        let y36:=asL (resC y2 0 11)
        let y37:=asL (resC y2 0 12)
        some ([.agg [.i .i64 y4,.i .i64 y5,.i .i64 y17,.i .i64 y28,.i .i64 y29,.i .i64 y30,.i .i64 y31,.i .i64 y32,.l y33,.i .i64 y34,.l y35,.l y36,.l y37],.one (.l ([[.i .i64 (4:Int),.i .i64 y4,.i .i64 n11,.i .i64 y17,.i .i64 (0:Int),.i .i64 (0:Int),.i .i64 (0:Int),.b false,.l ([]:Rw),.s (⟨#[]⟩:ByteArray)]]:Rw))],[])
       else
        let y38:=asI (resC y2 0 3)
        let y39:=asI (resC y2 0 4)
        let y40:=asI (resC y2 0 5)
        let y41:=asI (resC y2 0 6)
        let y42:=asI (resC y2 0 7)
        let y43:=asL (resC y2 0 8)
        let y44:=asI (resC y2 0 9)
        let y45:=asL (resC y2 0 10)
        let y46:=asL (resC y2 0 11)
        let y47:=asL (resC y2 0 12)
        some ([.agg [.i .i64 y4,.i .i64 y5,.i .i64 y17,.i .i64 y38,.i .i64 y39,.i .i64 y40,.i .i64 y41,.i .i64 y42,.l y43,.i .i64 y44,.l y45,.l y46,.l y47],.one (.l ([]:Rw))],[])
      let y48:=n10==(3:Int)
      if y48 then
       k1 y48
      else
       k1 (n10==(5:Int))
    else
     let k2:=fun (n17 n18 n19 n20 n21 n22 n23 n24 n25:Int) (l6 l7 l8 l9:Rw) =>
      if n10==(1:Int) then
       let y49:=t86 n17 n18 n19 n20 n21 n22 n23 n24 l6 n25 l7 l8 l9 n10 n11 n12 n13 n14 n15 n16 b1 l5 s1
       chk (okR zr86 zo86 y49) <|
       some ([.agg [.i .i64 (asI (resC y49 0 0)),.i .i64 (asI (resC y49 0 1)),.i .i64 (asI (resC y49 0 2)),.i .i64 (asI (resC y49 0 3)),.i .i64 (asI (resC y49 0 4)),.i .i64 (asI (resC y49 0 5)),.i .i64 (asI (resC y49 0 6)),.i .i64 (asI (resC y49 0 7)),.l (asL (resC y49 0 8)),.i .i64 (asI (resC y49 0 9)),.l (asL (resC y49 0 10)),.l (asL (resC y49 0 11)),.l (asL (resC y49 0 12))],.one (.l (asL (resC y49 1 0)))],[])
      else
       if n10==(2:Int) then
        let y50:=t87 n17 n18 n19 n20 n21 n22 n23 n24 l6 n25 l7 l8 l9 n10 n11 n12 n13 n14 n15 n16 b1 l5 s1
        chk (okR zr87 zo87 y50) <|
        some ([.agg [.i .i64 (asI (resC y50 0 0)),.i .i64 (asI (resC y50 0 1)),.i .i64 (asI (resC y50 0 2)),.i .i64 (asI (resC y50 0 3)),.i .i64 (asI (resC y50 0 4)),.i .i64 (asI (resC y50 0 5)),.i .i64 (asI (resC y50 0 6)),.i .i64 (asI (resC y50 0 7)),.l (asL (resC y50 0 8)),.i .i64 (asI (resC y50 0 9)),.l (asL (resC y50 0 10)),.l (asL (resC y50 0 11)),.l (asL (resC y50 0 12))],.one (.l (asL (resC y50 1 0)))],[])
       else
        if n10==(3:Int) then
         let y51:=t88 n17 n18 n19 n20 n21 n22 n23 n24 l6 n25 l7 l8 l9 n10 n11 n12 n13 n14 n15 n16 b1 l5 s1
         chk (okR zr88 zo88 y51) <|
         some ([.agg [.i .i64 (asI (resC y51 0 0)),.i .i64 (asI (resC y51 0 1)),.i .i64 (asI (resC y51 0 2)),.i .i64 (asI (resC y51 0 3)),.i .i64 (asI (resC y51 0 4)),.i .i64 (asI (resC y51 0 5)),.i .i64 (asI (resC y51 0 6)),.i .i64 (asI (resC y51 0 7)),.l (asL (resC y51 0 8)),.i .i64 (asI (resC y51 0 9)),.l (asL (resC y51 0 10)),.l (asL (resC y51 0 11)),.l (asL (resC y51 0 12))],.one (.l (asL (resC y51 1 0)))],[])
        else
         if n10==(4:Int) then
          let y52:=t89 n17 n18 n19 n20 n21 n22 n23 n24 l6 n25 l7 l8 l9 n10 n11 n12 n13 n14 n15 n16 b1 l5 s1
          chk (okR zr89 zo89 y52) <|
          some ([.agg [.i .i64 (asI (resC y52 0 0)),.i .i64 (asI (resC y52 0 1)),.i .i64 (asI (resC y52 0 2)),.i .i64 (asI (resC y52 0 3)),.i .i64 (asI (resC y52 0 4)),.i .i64 (asI (resC y52 0 5)),.i .i64 (asI (resC y52 0 6)),.i .i64 (asI (resC y52 0 7)),.l (asL (resC y52 0 8)),.i .i64 (asI (resC y52 0 9)),.l (asL (resC y52 0 10)),.l (asL (resC y52 0 11)),.l (asL (resC y52 0 12))],.one (.l (asL (resC y52 1 0)))],[])
         else
          let y53:=t90 n17 n18 n19 n20 n21 n22 n23 n24 l6 n25 l7 l8 l9 n10 n11 n12 n13 n14 n15 n16 b1 l5 s1
          chk (okR zr90 zo90 y53) <|
          some ([.agg [.i .i64 (asI (resC y53 0 0)),.i .i64 (asI (resC y53 0 1)),.i .i64 (asI (resC y53 0 2)),.i .i64 (asI (resC y53 0 3)),.i .i64 (asI (resC y53 0 4)),.i .i64 (asI (resC y53 0 5)),.i .i64 (asI (resC y53 0 6)),.i .i64 (asI (resC y53 0 7)),.l (asL (resC y53 0 8)),.i .i64 (asI (resC y53 0 9)),.l (asL (resC y53 0 10)),.l (asL (resC y53 0 11)),.l (asL (resC y53 0 12))],.one (.l (asL (resC y53 1 0)))],[])
     if decide (n13 > y17) then
      let y54:=asI (resC y2 0 3)
      let y55:=asI (resC y2 0 4)
      let y56:=asI (resC y2 0 5)
      let y57:=asI (resC y2 0 6)
      let y58:=asI (resC y2 0 7)
      let y59:=asL (resC y2 0 8)
      let y60:=asI (resC y2 0 9)
      let y61:=asL (resC y2 0 10)
      let y62:=asL (resC y2 0 11)
      let y63:=asL (resC y2 0 12)
      let y64:=t85 y4 y5 y17 y54 y55 y56 y57 y58 y59 y60 y61 y62 y63 n13
      chk (okR zr85 zo85 y64) <|
      k2 (asI (resC y64 0 0)) (asI (resC y64 0 1)) (asI (resC y64 0 2)) (asI (resC y64 0 3)) (asI (resC y64 0 4)) (asI (resC y64 0 5)) (asI (resC y64 0 6)) (asI (resC y64 0 7)) (asI (resC y64 0 9)) (asL (resC y64 0 8)) (asL (resC y64 0 10)) (asL (resC y64 0 11)) (asL (resC y64 0 12))
     else
      let y65:=asI (resC y2 0 3)
      let y66:=asI (resC y2 0 4)
      let y67:=asI (resC y2 0 5)
      let y68:=asI (resC y2 0 6)
      let y69:=asI (resC y2 0 7)
      let y70:=asI (resC y2 0 9)
      let y71:=asL (resC y2 0 8)
      let y72:=asL (resC y2 0 10)
      let y73:=asL (resC y2 0 11)
      let y74:=asL (resC y2 0 12)
      k2 y4 y5 y17 y65 y66 y67 y68 y69 y70 y71 y72 y73 y74
def t78:Y78:=ta78 t7 t31 t84 t85 t86 t87 t88 t89 t90
def zr78:List DV:=[.agg [.i .i64 0,.i .i64 0,.i .i64 0,.i .i64 0,.i .i64 0,.i .i64 0,.i .i64 0,.i .i64 0,.l [],.i .i64 0,.l [],.l [],.l []],.one (.l [])]
def zo78:Rw:=[]
def A78:List TA:=[.agg [.i .i64,.i .i64,.i .i64,.i .i64,.i .i64,.i .i64,.i .i64,.i .i64,.l,.i .i64,.l,.l,.l],.agg [.i .i64,.i .i64,.i .i64,.i .i64,.i .i64,.i .i64,.i .i64,.b,.l,.s]]
abbrev Y36:=Rw→Int→Int→Int→Int→Int→Rs
def ta36 (t17:Y17) (t28:Y28) (t29:Y29) (t38:Y38) (l1:Rw) (n1 n2 n3 n4 n5:Int):Rs :=
  let y1:=t29 l1 n1 n2 (5:Int)
  chk (okR zr29 zo29 y1) <|
  let y2:=t29 l1 (asI (outC y1 0 1)) (asI (outC y1 0 2)) n3
  chk (okR zr29 zo29 y2) <|
  let y3:=t29 l1 (asI (outC y2 0 1)) (asI (outC y2 0 2)) n3
  chk (okR zr29 zo29 y3) <|
  let y4:=t29 l1 (asI (outC y3 0 1)) (asI (outC y3 0 2)) (3:Int)
  chk (okR zr29 zo29 y4) <|
  let k1:=fun (n6:Int) =>
   let y5:=t29 l1 (asI (outC y4 0 1)) (asI (outC y4 0 2)) (w64 (n5+(2:Int)))
   chk (okR zr29 zo29 y5) <|
   let k2:=fun (n7 n8 n9:Int) =>
    let y6:=w64 ((1:Int)+(asI (resC y1 0 0)))
    if y6==(1:Int) then
     let y7:=asI (resC y2 0 0)
     let y8:=asI (resC y3 0 0)
     let y9:=asI (resC y5 0 0)
     some ([.agg [.i .i64 y6,.i .i64 y7,.i .i64 y8,.i .i64 n6,.i .i64 y9,.i .i64 n7,.i .i64 (0:Int),.b false,.l ([]:Rw),.s (⟨#[]⟩:ByteArray)]],[[.l l1,.i .i64 n8,.i .i64 n9]])
    else
     if y6==(2:Int) then
      let y10:=t17 l1 n8 n9 (4:Int)
      chk (okR zr17 zo17 y10) <|
      let y11:=asI (resC y2 0 0)
      let y12:=asI (resC y3 0 0)
      some ([.agg [.i .i64 y6,.i .i64 y11,.i .i64 y12,.i .i64 n6,.i .i64 (0:Int),.i .i64 (0:Int),.i .i64 (0:Int),.b (!(asB (resC y10 0 0))),.l ([]:Rw),.s (⟨#[]⟩:ByteArray)]],[[.l l1,.i .i64 (asI (outC y10 0 1)),.i .i64 (asI (outC y10 0 2))]])
     else
      if y6==(3:Int) then
       let y13:=t29 l1 n8 n9 (w64 (n5+(3:Int)))
       chk (okR zr29 zo29 y13) <|
       let y14:=t38 l1 (asI (outC y13 0 1)) (asI (outC y13 0 2)) (4:Int) n7 n6
       chk (okR zr38 zo38 y14) <|
       let y15:=asI (resC y2 0 0)
       let y16:=asI (resC y3 0 0)
       let y17:=asI (resC y5 0 0)
       some ([.agg [.i .i64 y6,.i .i64 y15,.i .i64 y16,.i .i64 n6,.i .i64 y17,.i .i64 n7,.i .i64 (asI (resC y13 0 0)),.b false,.l (asL (resC y14 0 0)),.s (⟨#[]⟩:ByteArray)]],[[.l l1,.i .i64 (asI (outC y14 0 1)),.i .i64 (asI (outC y14 0 2))]])
      else
       let k3:=fun (n10 n11 n12 n13:Int) (b1:Bool) (s1:ByteArray) =>
        let y18:=asI (resC y2 0 0)
        let y19:=asI (resC y3 0 0)
        some ([.agg [.i .i64 y6,.i .i64 y18,.i .i64 y19,.i .i64 n6,.i .i64 n12,.i .i64 n13,.i .i64 (0:Int),.b b1,.l ([]:Rw),.s s1]],[[.l l1,.i .i64 n10,.i .i64 n11]])
       if y6==(4:Int) then
        let y20:=t17 l1 n8 n9 (3:Int)
        chk (okR zr17 zo17 y20) <|
        let y21:=asI (resC y5 0 0)
        k3 (asI (outC y20 0 1)) (asI (outC y20 0 2)) y21 (0:Int) (!(asB (resC y20 0 0))) (⟨#[]⟩:ByteArray)
       else
        let y22:=t29 l1 n8 n9 n6
        chk (okR zr29 zo29 y22) <|
        let y23:=t28 l1 (asI (outC y22 0 1)) (asI (outC y22 0 2)) (6:Int)
        chk (okR zr28 zo28 y23) <|
        let y24:=asI (resC y5 0 0)
        k3 (asI (outC y23 0 1)) (asI (outC y23 0 2)) (w64 ((1:Int)+y24)) (w64 ((1:Int)+(asI (resC y22 0 0)))) false (asS (resC y23 0 0))
   let y25:=asI (resC y5 0 0)
   if decide (y25 > (0:Int)) then
    let y26:=asI (outC y5 0 1)
    let y27:=asI (outC y5 0 2)
    let y28:=t29 l1 y26 y27 n6
    chk (okR zr29 zo29 y28) <|
    k2 (w64 ((1:Int)+(asI (resC y28 0 0)))) (asI (outC y28 0 1)) (asI (outC y28 0 2))
   else
    let y29:=asI (outC y5 0 1)
    let y30:=asI (outC y5 0 2)
    k2 (0:Int) y29 y30
  let y31:=w64 ((w64 (n4+(asI (resC y4 0 0)))) - (1:Int))
  if decide (y31 < (1:Int)) then
   k1 (1:Int)
  else
   k1 y31
def t36:Y36:=ta36 t17 t28 t29 t38
def zr36:List DV:=[.agg [.i .i64 0,.i .i64 0,.i .i64 0,.i .i64 0,.i .i64 0,.i .i64 0,.i .i64 0,.b false,.l [],.s ⟨#[]⟩]]
def zo36:Rw:=[[.l [],.i .i64 0,.i .i64 0]]
def A36:List TA:=[.ptr [.l,.i .i64,.i .i64],.one (.i .i64),.one (.i .i64),.one (.i .i64)]
abbrev Y19:=Rw→Int→Int→Int→Int→Int→Int→Int→Int→Int→Int→Rw→Int→Rw→Rw→Rw→Rs
def ta19 (t17:Y17) (t23:Y23) (t29:Y29) (t36:Y36) (t37:Y37) (t38:Y38) (l1:Rw) (n1 n2 n3 n4 n5 n6 n7 n8 n9 n10:Int) (l2:Rw) (n11:Int) (l3 l4 l5:Rw):Rs :=
  let y1:=t23 n3 n4 n5 n6 n7 n8 n9 n10 l2 n11 l3 l4 l5
  chk (okR zr23 zo23 y1) <|
  let y2:=t36 l1 n1 n2 n4 n5 (asI (resC y1 0 0))
  chk (okR zr36 zo36 y2) <|
  let y3:=asI (resC y2 0 0)
  let y4:=y3==(3:Int)
  if y4 then
   let y5:=asI (outC y2 0 1)
   let y6:=asI (outC y2 0 2)
   let y7:=t17 l1 y5 y6 (3:Int)
   chk (okR zr17 zo17 y7) <|
   if y4&&(!(asB (resC y7 0 0))) then
    let y8:=asI (outC y7 0 1)
    let y9:=asI (outC y7 0 2)
    let y10:=t29 l1 y8 y9 (w64 ((l2.length:Int)+(1:Int)))
    chk (okR zr29 zo29 y10) <|
    let y11:=w64 (n9+(asI (resC y10 0 0)))
    let y12:=t37 n3 n4 n5 n6 n7 n8 n9 n10 l2 n11 l3 l4 l5 y11
    chk (okR zr37 zo37 y12) <|
    let k1:=fun (n12:Int) =>
     let y13:=asI (resC y12 0 0)
     let y14:=t38 l1 (asI (outC y10 0 1)) (asI (outC y10 0 2)) (4:Int) y13 n12
     chk (okR zr38 zo38 y14) <|
     let y15:=asI (resC y2 0 1)
     let y16:=asI (resC y2 0 6)
     let y17:=asB (resC y2 0 7)
     let y18:=asS (resC y2 0 9)
     some ([.agg [.i .i64 y3,.i .i64 y15,.i .i64 n3,.i .i64 n12,.i .i64 y11,.i .i64 y13,.i .i64 y16,.b y17,.l (asL (resC y14 0 0)),.s y18]],[[.l l1,.i .i64 (asI (outC y14 0 1)),.i .i64 (asI (outC y14 0 2))]])
    let y19:=asI (resC y2 0 3)
    let y20:=asI (resC y12 0 0)
    if decide (y19 < y20) then
     k1 y20
    else
     k1 y19
   else
    let y21:=asI (resC y2 0 1)
    let y22:=asI (resC y2 0 3)
    let y23:=asI (resC y2 0 4)
    let y24:=asI (resC y2 0 5)
    let y25:=asI (resC y2 0 6)
    let y26:=asB (resC y2 0 7)
    let y27:=asL (resC y2 0 8)
    let y28:=asS (resC y2 0 9)
    let y29:=asI (outC y7 0 1)
    let y30:=asI (outC y7 0 2)
    some ([.agg [.i .i64 y3,.i .i64 y21,.i .i64 n3,.i .i64 y22,.i .i64 y23,.i .i64 y24,.i .i64 y25,.b y26,.l y27,.s y28]],[[.l l1,.i .i64 y29,.i .i64 y30]])
  else
   if y4 then
    none
   else
    chk (!y4) <|
    let y31:=asI (resC y2 0 1)
    let y32:=asI (resC y2 0 3)
    let y33:=asI (resC y2 0 4)
    let y34:=asI (resC y2 0 5)
    let y35:=asI (resC y2 0 6)
    let y36:=asB (resC y2 0 7)
    let y37:=asL (resC y2 0 8)
    let y38:=asS (resC y2 0 9)
    let y39:=asI (outC y2 0 1)
    let y40:=asI (outC y2 0 2)
    some ([.agg [.i .i64 y3,.i .i64 y31,.i .i64 n3,.i .i64 y32,.i .i64 y33,.i .i64 y34,.i .i64 y35,.b y36,.l y37,.s y38]],[[.l l1,.i .i64 y39,.i .i64 y40]])
def t19:Y19:=ta19 t17 t23 t29 t36 t37 t38
def zr19:List DV:=[.agg [.i .i64 0,.i .i64 0,.i .i64 0,.i .i64 0,.i .i64 0,.i .i64 0,.i .i64 0,.b false,.l [],.s ⟨#[]⟩]]
def zo19:Rw:=[[.l [],.i .i64 0,.i .i64 0]]
def A19:List TA:=[.ptr [.l,.i .i64,.i .i64],.agg [.i .i64,.i .i64,.i .i64,.i .i64,.i .i64,.i .i64,.i .i64,.i .i64,.l,.i .i64,.l,.l,.l]]
abbrev Y64:=Rw→Int→Int→Int→Int→Int→Int→Int→Int→Int→Int→Rw→Int→Rw→Rw→Rw→Rs
def la64o5 (t12:Y12) (t19:Y19) (t28:Y28) (t29:Y29) (t76:Y76) (t77:Y77) (t78:Y78) (n1:Int) (b1 b2 b3 b4:Bool) (l1:Rw) (n2 n3 n4 n5 n6 n7 n8 n9 n10 n11 n12:Int) (q1:SV→Int→Bool→Int→Int→Int→Int→Int→Int→Int→Int→Int→Rw→Rw→Rw→Rw→Rs):Nat→SV→Int→SV→Int→Int→Int→Int→Int→Int→Int→Int→Int→Rw→Rw→Rw→Rw→Rs
  | 0,_,_,_,_,_,_,_,_,_,_,_,_,_,_,_,_=>none
  | m+1,v1,n13,v2,n14,n15,n16,n17,n18,n19,n20,n21,n22,l2,l3,l4,l5 =>
    let y1:=decide (n13 < (3:Int))
    if y1 then
     let y2:=t78 n14 n15 n16 n17 n18 n19 n20 n21 l2 n22 l3 l4 l5 (2:Int) n13 n14 n16 (0:Int) (0:Int) (0:Int) true ([]:Rw) (⟨#[]⟩:ByteArray)
     chk (okR zr78 zo78 y2) <|
     la64o5 t12 t19 t28 t29 t76 t77 t78 n1 b1 b2 b3 b4 l1 n2 n3 n4 n5 n6 n7 n8 n9 n10 n11 n12 q1 m (keepV [0,192,256,12297,12299,12300,12301] (renV 3852 12301 (renV 3851 12300 (renV 3850 12299 (renV 3848 12297 (killV 12301 (killV 12300 (killV 12299 (killV 12297 v1))))))))) (w64 (n13+(1:Int))) (.d (.b y1)) (asI (resC y2 0 0)) (asI (resC y2 0 1)) (asI (resC y2 0 2)) (asI (resC y2 0 3)) (asI (resC y2 0 4)) (asI (resC y2 0 5)) (asI (resC y2 0 6)) (asI (resC y2 0 7)) (asI (resC y2 0 9)) (asL (resC y2 0 8)) (asL (resC y2 0 10)) (asL (resC y2 0 11)) (asL (resC y2 0 12))
    else
     q1 (keepV [0,192,256,12297,12299,12300,12301] v1) n13 y1 n14 n15 n16 n17 n18 n19 n20 n21 n22 l2 l3 l4 l5
def ta64 (t12:Y12) (t19:Y19) (t28:Y28) (t29:Y29) (t76:Y76) (t77:Y77) (t78:Y78) (l1:Rw) (n1 n2 n3 n4 n5 n6 n7 n8 n9 n10:Int) (l2:Rw) (n11:Int) (l3 l4 l5:Rw):Rs :=
  let y1:=t29 l1 n1 n2 (9:Int)
  chk (okR zr29 zo29 y1) <|
  let k1:=fun (b1:Bool) =>
   if b1 then
    let y2:=t76 n3 n4 n5 n6 n7 n8 n9 n10 l2 n11 l3 l4 l5
    chk (okR zr76 zo76 y2) <|
    let y3:=asI (outC y1 0 1)
    let y4:=asI (outC y1 0 2)
    some ([.agg [.i .i64 (asI (resC y2 0 0)),.i .i64 (asI (resC y2 0 1)),.i .i64 (asI (resC y2 0 2)),.i .i64 (asI (resC y2 0 3)),.i .i64 (asI (resC y2 0 4)),.i .i64 (asI (resC y2 0 5)),.i .i64 (asI (resC y2 0 6)),.i .i64 (asI (resC y2 0 7)),.l (asL (resC y2 0 8)),.i .i64 (asI (resC y2 0 9)),.l (asL (resC y2 0 10)),.l (asL (resC y2 0 11)),.l (asL (resC y2 0 12))]],[[.l l1,.i .i64 y3,.i .i64 y4]])
   else
    let y5:=asI (resC y1 0 0)
    let y6:=y5==(2:Int)
    if y6 then
     let y7:=asI (outC y1 0 1)
     let y8:=asI (outC y1 0 2)
     let y9:=t28 l1 y7 y8 (5:Int)
     chk (okR zr28 zo28 y9) <|
     let y10:=t12 n3 n4 n5 n6 n7 n8 n9 n10 l2 n11 l3 l4 l5 (asS (resC y9 0 0))
     chk (okR zr12 zo12 y10) <|
     some ([.agg [.i .i64 (asI (resC y10 0 0)),.i .i64 (asI (resC y10 0 1)),.i .i64 (asI (resC y10 0 2)),.i .i64 (asI (resC y10 0 3)),.i .i64 (asI (resC y10 0 4)),.i .i64 (asI (resC y10 0 5)),.i .i64 (asI (resC y10 0 6)),.i .i64 (asI (resC y10 0 7)),.l (asL (resC y10 0 8)),.i .i64 (asI (resC y10 0 9)),.l (asL (resC y10 0 10)),.l (asL (resC y10 0 11)),.l (asL (resC y10 0 12))]],[[.l l1,.i .i64 (asI (outC y9 0 1)),.i .i64 (asI (outC y9 0 2))]])
    else
     let y11:=y5==(3:Int)
     if y11 then
      let y12:=asI (outC y1 0 1)
      let y13:=asI (outC y1 0 2)
      let y14:=t29 l1 y12 y13 (4:Int)
      chk (okR zr29 zo29 y14) <|
      let y15:=t77 n3 n4 n5 n6 n7 n8 n9 n10 l2 n11 l3 l4 l5 (w64 (n9+(asI (resC y14 0 0))))
      chk (okR zr77 zo77 y15) <|
      some ([.agg [.i .i64 (asI (resC y15 0 0)),.i .i64 (asI (resC y15 0 1)),.i .i64 (asI (resC y15 0 2)),.i .i64 (asI (resC y15 0 3)),.i .i64 (asI (resC y15 0 4)),.i .i64 (asI (resC y15 0 5)),.i .i64 (asI (resC y15 0 6)),.i .i64 (asI (resC y15 0 7)),.l (asL (resC y15 0 8)),.i .i64 (asI (resC y15 0 9)),.l (asL (resC y15 0 10)),.l (asL (resC y15 0 11)),.l (asL (resC y15 0 12))]],[[.l l1,.i .i64 (asI (outC y14 0 1)),.i .i64 (asI (outC y14 0 2))]])
     else
      let y16:=y5==(4:Int)
      if y16 then
       let y17:=asI (outC y1 0 1)
       let y18:=asI (outC y1 0 2)
       la64o5 t12 t19 t28 t29 t76 t77 t78 y5 b1 y6 y11 y16 l1 y17 y18 (0:Int) (0:Int) (0:Int) (0:Int) (0:Int) (0:Int) (0:Int) (0:Int) (0:Int)
        (fun (v1:SV) (n12:Int) (b2:Bool) (n13 n14 n15 n16 n17 n18 n19 n20 n21:Int) (l6 l7 l8 l9:Rw) =>
         some ([.agg [.i .i64 n13,.i .i64 n14,.i .i64 n15,.i .i64 n16,.i .i64 n17,.i .i64 n18,.i .i64 n19,.i .i64 n20,.l l6,.i .i64 n21,.l l7,.l l8,.l l9]],[[.l l1,.i .i64 y17,.i .i64 y18]])) KK (SV.agg [(.d (.i .i64 n3)),(.d (.i .i64 n4)),(.d (.i .i64 n5)),(.d (.i .i64 n6)),(.d (.i .i64 n7)),(.d (.i .i64 n8)),(.d (.i .i64 n9)),(.d (.i .i64 n10)),(SV.own 12297),(.d (.i .i64 n11)),(SV.own 12299),(SV.own 12300),(SV.own 12301)]) (0:Int) SV.undef n3 n4 n5 n6 n7 n8 n9 n10 n11 l2 l3 l4 l5
      else
       let y19:=asI (outC y1 0 1)
       let y20:=asI (outC y1 0 2)
       let y21:=t19 l1 y19 y20 n3 n4 n5 n6 n7 n8 n9 n10 l2 n11 l3 l4 l5
       chk (okR zr19 zo19 y21) <|
       let y22:=t78 n3 n4 n5 n6 n7 n8 n9 n10 l2 n11 l3 l4 l5 (asI (resC y21 0 0)) (asI (resC y21 0 1)) (asI (resC y21 0 2)) (asI (resC y21 0 3)) (asI (resC y21 0 4)) (asI (resC y21 0 5)) (asI (resC y21 0 6)) (asB (resC y21 0 7)) (asL (resC y21 0 8)) (asS (resC y21 0 9))
       chk (okR zr78 zo78 y22) <|
       some ([.agg [.i .i64 (asI (resC y22 0 0)),.i .i64 (asI (resC y22 0 1)),.i .i64 (asI (resC y22 0 2)),.i .i64 (asI (resC y22 0 3)),.i .i64 (asI (resC y22 0 4)),.i .i64 (asI (resC y22 0 5)),.i .i64 (asI (resC y22 0 6)),.i .i64 (asI (resC y22 0 7)),.l (asL (resC y22 0 8)),.i .i64 (asI (resC y22 0 9)),.l (asL (resC y22 0 10)),.l (asL (resC y22 0 11)),.l (asL (resC y22 0 12))]],[[.l l1,.i .i64 (asI (outC y21 0 1)),.i .i64 (asI (outC y21 0 2))]])
  let y23:=asI (resC y1 0 0)
  let y24:=y23==(0:Int)
  if y24 then
   k1 y24
  else
   k1 (y23==(1:Int))
def t64:Y64:=ta64 t12 t19 t28 t29 t76 t77 t78
def zr64:List DV:=[.agg [.i .i64 0,.i .i64 0,.i .i64 0,.i .i64 0,.i .i64 0,.i .i64 0,.i .i64 0,.i .i64 0,.l [],.i .i64 0,.l [],.l [],.l []]]
def zo64:Rw:=[[.l [],.i .i64 0,.i .i64 0]]
def A64:List TA:=[.ptr [.l,.i .i64,.i .i64],.agg [.i .i64,.i .i64,.i .i64,.i .i64,.i .i64,.i .i64,.i .i64,.i .i64,.l,.i .i64,.l,.l,.l]]
abbrev Y34:=Rw→Int→Int→Int→Rs
def la34o2 (t29:Y29) (t35:Y35) (t62:Y62) (t63:Y63) (t64:Y64) (n1 n2:Int) (b1 b2 b3:Bool) (l1:Rw) (n3 n4 n5 n6 n7 n8 n9 n10 n11 n12 n13 n14 n15:Int) (s1:ByteArray) (l2 l3:Rw) (q1:Int→Bool→Int→Int→Int→Int→Int→Int→Int→Int→Int→Int→Int→Rw→Rw→Rw→Rw→Rs):Nat→Int→SV→Int→Int→Int→Int→Int→Int→Int→Int→Int→Int→Int→Rw→Rw→Rw→Rw→Rs
  | 0,_,_,_,_,_,_,_,_,_,_,_,_,_,_,_,_,_=>none
  | m+1,n16,v1,n17,n18,n19,n20,n21,n22,n23,n24,n25,n26,n27,l4,l5,l6,l7 =>
    let y1:=decide (n16 > (0:Int))
    if y1 then
     let y2:=t64 l1 n17 n18 n19 n20 n21 n22 n23 n24 n25 n26 l4 n27 l5 l6 l7
     chk (okR zr64 zo64 y2) <|
     la34o2 t29 t35 t62 t63 t64 n1 n2 b1 b2 b3 l1 n3 n4 n5 n6 n7 n8 n9 n10 n11 n12 n13 n14 n15 s1 l2 l3 q1 m (w64 (n16 - (1:Int))) (.d (.b y1)) (asI (outC y2 0 1)) (asI (outC y2 0 2)) (asI (resC y2 0 0)) (asI (resC y2 0 1)) (asI (resC y2 0 2)) (asI (resC y2 0 3)) (asI (resC y2 0 4)) (asI (resC y2 0 5)) (asI (resC y2 0 6)) (asI (resC y2 0 7)) (asI (resC y2 0 9)) (asL (resC y2 0 8)) (asL (resC y2 0 10)) (asL (resC y2 0 11)) (asL (resC y2 0 12))
    else
     q1 n16 y1 n17 n18 n19 n20 n21 n22 n23 n24 n25 n26 n27 l4 l5 l6 l7
def ta34 (t29:Y29) (t35:Y35) (t62:Y62) (t63:Y63) (t64:Y64) (l1:Rw) (n1 n2 n3:Int):Rs :=
  let y1:=t62 l1 n1 n2
  chk (okR zr62 zo62 y1) <|
  let y2:=([[.i .i64 (1:Int)],[.i .i64 (2:Int)],[.i .i64 (3:Int)],[.i .i64 (3:Int)],[.i .i64 (3:Int)],[.i .i64 (5:Int)]]:Rw)
  let y3:=t35 l1 (asI (outC y1 0 1)) (asI (outC y1 0 2)) y2
  chk (okR zr35 zo35 y3) <|
  let k1:=fun (n4:Int) =>
   let y4:=asI (resC y3 0 0)
   let y5:=t29 l1 (asI (outC y3 0 1)) (asI (outC y3 0 2)) y4
   chk (okR zr29 zo29 y5) <|
   let y6:=asI (resC y1 0 0)
   let y7:=asI (resC y1 0 2)
   let y8:=asI (resC y1 0 3)
   let y9:=asS (resC y1 0 4)
   let y10:=asL (resC y1 0 5)
   let y11:=t63 (asI (resC y5 0 0)) y4 y6 n4 y7 y8 y9 y10
   chk (okR zr63 zo63 y11) <|
   let k2:=fun (n5 n6 n7 n8 n9 n10 n11 n12 n13:Int) (l2 l3 l4 l5:Rw) =>
    let y12:=t29 l1 (asI (outC y5 0 1)) (asI (outC y5 0 2)) n3
    chk (okR zr29 zo29 y12) <|
    let y13:=asB (resC y11 1 0)
    let y14:=asI (resC y1 0 1)
    let y15:=decide (y14 ≥ y4)
    let y16:=!y13
    la34o2 t29 t35 t62 t63 t64 n3 y4 y13 y15 y16 l1 (0:Int) (0:Int) (0:Int) (0:Int) (0:Int) (0:Int) (0:Int) (0:Int) (0:Int) y6 n4 y7 y8 y9 y2 y10
     (fun (n14:Int) (b1:Bool) (n15 n16 n17 n18 n19 n20 n21 n22 n23 n24 n25:Int) (l6 l7 l8 l9:Rw) =>
      some ([.agg [.i .i64 n17,.i .i64 n18,.i .i64 n19,.i .i64 n20,.i .i64 n21,.i .i64 n22,.i .i64 n23,.i .i64 n24,.l l6,.i .i64 n25,.l l7,.l l8,.l l9]],[[.l l1,.i .i64 n15,.i .i64 n16]])) KK (asI (resC y12 0 0)) SV.undef (asI (outC y12 0 1)) (asI (outC y12 0 2)) n5 n6 n7 n8 n9 n10 n11 n12 n13 l2 l3 l4 l5
   let y17:=asB (resC y11 1 0)
   let y18:=!y17
   if y18 then
    let y19:=t63 (0:Int) (3:Int) (0:Int) (-1:Int) (0:Int) (0:Int) (⟨#[]⟩:ByteArray) ([]:Rw)
    chk (okR zr63 zo63 y19) <|
    k2 (asI (resC y19 0 0)) (asI (resC y19 0 1)) (asI (resC y19 0 2)) (asI (resC y19 0 3)) (asI (resC y19 0 4)) (asI (resC y19 0 5)) (asI (resC y19 0 6)) (asI (resC y19 0 7)) (asI (resC y19 0 9)) (asL (resC y19 0 8)) (asL (resC y19 0 10)) (asL (resC y19 0 11)) (asL (resC y19 0 12))
   else
    k2 (asI (resC y11 0 0)) (asI (resC y11 0 1)) (asI (resC y11 0 2)) (asI (resC y11 0 3)) (asI (resC y11 0 4)) (asI (resC y11 0 5)) (asI (resC y11 0 6)) (asI (resC y11 0 7)) (asI (resC y11 0 9)) (asL (resC y11 0 8)) (asL (resC y11 0 10)) (asL (resC y11 0 11)) (asL (resC y11 0 12))
  let y20:=asI (resC y1 0 1)
  let y21:=asI (resC y3 0 0)
  let y22:=decide (y20 ≥ y21)
  if y22 then
   k1 (-1:Int)
  else
   k1 y20
def t34:Y34:=ta34 t29 t35 t62 t63 t64
def zr34:List DV:=[.agg [.i .i64 0,.i .i64 0,.i .i64 0,.i .i64 0,.i .i64 0,.i .i64 0,.i .i64 0,.i .i64 0,.l [],.i .i64 0,.l [],.l [],.l []]]
def zo34:Rw:=[[.l [],.i .i64 0,.i .i64 0]]
def A34:List TA:=[.ptr [.l,.i .i64,.i .i64],.one (.i .i64)]
abbrev Y15:=Rw→Int→Int→Int→Rs
def ta15 (t17:Y17) (t29:Y29) (t31:Y31) (t34:Y34) (t35:Y35) (l1:Rw) (n1 n2 n3:Int):Rs :=
  let y1:=t34 l1 n1 n2 n3
  chk (okR zr34 zo34 y1) <|
  let y2:=t17 l1 (asI (outC y1 0 1)) (asI (outC y1 0 2)) (10:Int)
  chk (okR zr17 zo17 y2) <|
  if !(asB (resC y2 0 0)) then
   let y3:=asI (resC y1 0 0)
   let y4:=asI (resC y1 0 1)
   let y5:=asI (resC y1 0 2)
   let y6:=asI (resC y1 0 3)
   let y7:=asI (resC y1 0 4)
   let y8:=asI (resC y1 0 5)
   let y9:=asI (resC y1 0 6)
   let y10:=asI (resC y1 0 7)
   let y11:=asL (resC y1 0 8)
   let y12:=asI (resC y1 0 9)
   let y13:=asL (resC y1 0 10)
   let y14:=asL (resC y1 0 11)
   let y15:=asL (resC y1 0 12)
   let y16:=asI (outC y2 0 1)
   let y17:=asI (outC y2 0 2)
   some ([.agg [.i .i64 y3,.i .i64 y4,.i .i64 y5,.i .i64 y6,.i .i64 y7,.i .i64 y8,.i .i64 y9,.i .i64 y10,.l y11,.i .i64 y12,.l y13,.l y14,.l y15]],[[.l l1,.i .i64 y16,.i .i64 y17]])
  else
   let y18:=asI (resC y1 0 0)
   let y19:=asI (resC y1 0 1)
   let y20:=asI (resC y1 0 2)
   let y21:=asI (resC y1 0 3)
   let y22:=asI (resC y1 0 4)
   let y23:=asI (resC y1 0 5)
   let y24:=asI (resC y1 0 6)
   let y25:=asI (resC y1 0 7)
   let y26:=asL (resC y1 0 8)
   let y27:=asI (resC y1 0 9)
   let y28:=asL (resC y1 0 10)
   let y29:=asL (resC y1 0 11)
   let y30:=asL (resC y1 0 12)
   let y31:=t31 y18 y19 y20 y21 y22 y23 y24 y25 y26 y27 y28 y29 y30
   chk (okR zr31 zo31 y31) <|
   let y32:=asI (outC y2 0 1)
   let y33:=asI (outC y2 0 2)
   let y34:=t29 l1 y32 y33 (9:Int)
   chk (okR zr29 zo29 y34) <|
   let y35:=asI (resC y34 0 0)
   if y35==(0:Int) then
    let y36:=asI (outC y34 0 1)
    let y37:=asI (outC y34 0 2)
    let y38:=t35 l1 y36 y37 ([[.i .i64 (-1:Int)],[.i .i64 (1:Int)],[.i .i64 (5:Int)]]:Rw)
    chk (okR zr35 zo35 y38) <|
    let y39:=asI (resC y31 0 1)
    let y40:=asI (resC y31 0 2)
    let y41:=asI (resC y31 0 3)
    let y42:=asI (resC y31 0 4)
    let y43:=asI (resC y31 0 5)
    let y44:=asI (resC y31 0 6)
    let y45:=asI (resC y31 0 7)
    let y46:=asL (resC y31 0 8)
    let y47:=asI (resC y31 0 9)
    let y48:=asL (resC y31 0 10)
    let y49:=asL (resC y31 0 11)
    let y50:=asL (resC y31 0 12)
    some ([.agg [.i .i64 (asI (resC y38 0 0)),.i .i64 y39,.i .i64 y40,.i .i64 y41,.i .i64 y42,.i .i64 y43,.i .i64 y44,.i .i64 y45,.l y46,.i .i64 y47,.l y48,.l y49,.l y50]],[[.l l1,.i .i64 (asI (outC y38 0 1)),.i .i64 (asI (outC y38 0 2))]])
   else
    if y35==(1:Int) then
     let y51:=asI (outC y34 0 1)
     let y52:=asI (outC y34 0 2)
     let y53:=t35 l1 y51 y52 ([[.i .i64 (0:Int)],[.i .i64 (1:Int)],[.i .i64 (4:Int)],[.i .i64 (6:Int)]]:Rw)
     chk (okR zr35 zo35 y53) <|
     let y54:=asI (resC y31 0 0)
     let y55:=asI (resC y31 0 2)
     let y56:=asI (resC y31 0 3)
     let y57:=asI (resC y31 0 4)
     let y58:=asI (resC y31 0 5)
     let y59:=asI (resC y31 0 6)
     let y60:=asI (resC y31 0 7)
     let y61:=asL (resC y31 0 8)
     let y62:=asI (resC y31 0 9)
     let y63:=asL (resC y31 0 10)
     let y64:=asL (resC y31 0 11)
     let y65:=asL (resC y31 0 12)
     some ([.agg [.i .i64 y54,.i .i64 (asI (resC y53 0 0)),.i .i64 y55,.i .i64 y56,.i .i64 y57,.i .i64 y58,.i .i64 y59,.i .i64 y60,.l y61,.i .i64 y62,.l y63,.l y64,.l y65]],[[.l l1,.i .i64 (asI (outC y53 0 1)),.i .i64 (asI (outC y53 0 2))]])
    else
     if y35==(2:Int) then
      let y66:=asI (outC y34 0 1)
      let y67:=asI (outC y34 0 2)
      let y68:=t29 l1 y66 y67 (5:Int)
      chk (okR zr29 zo29 y68) <|
      let y69:=asI (resC y31 0 0)
      let y70:=asI (resC y31 0 1)
      let y71:=asI (resC y31 0 2)
      let y72:=asI (resC y31 0 3)
      let y73:=asI (resC y31 0 5)
      let y74:=asI (resC y31 0 6)
      let y75:=asI (resC y31 0 7)
      let y76:=asL (resC y31 0 8)
      let y77:=asI (resC y31 0 9)
      let y78:=asL (resC y31 0 10)
      let y79:=asL (resC y31 0 11)
      let y80:=asL (resC y31 0 12)
      some ([.agg [.i .i64 y69,.i .i64 y70,.i .i64 y71,.i .i64 y72,.i .i64 (asI (resC y68 0 0)),.i .i64 y73,.i .i64 y74,.i .i64 y75,.l y76,.i .i64 y77,.l y78,.l y79,.l y80]],[[.l l1,.i .i64 (asI (outC y68 0 1)),.i .i64 (asI (outC y68 0 2))]])
     else
      if y35==(3:Int) then
       let y81:=asI (outC y34 0 1)
       let y82:=asI (outC y34 0 2)
       let y83:=asL (resC y31 0 8)
       let y84:=t29 l1 y81 y82 (w64 ((y83.length:Int)+(3:Int)))
       chk (okR zr29 zo29 y84) <|
       let y85:=asI (resC y31 0 0)
       let y86:=asI (resC y31 0 1)
       let y87:=asI (resC y31 0 2)
       let y88:=asI (resC y31 0 3)
       let y89:=asI (resC y31 0 4)
       let y90:=asI (resC y31 0 5)
       let y91:=asI (resC y31 0 6)
       let y92:=asI (resC y31 0 7)
       let y93:=asL (resC y31 0 10)
       let y94:=asL (resC y31 0 11)
       let y95:=asL (resC y31 0 12)
       some ([.agg [.i .i64 y85,.i .i64 y86,.i .i64 y87,.i .i64 y88,.i .i64 y89,.i .i64 y90,.i .i64 y91,.i .i64 y92,.l y83,.i .i64 (w64 ((w64 (y91+(asI (resC y84 0 0)))) - (1:Int))),.l y93,.l y94,.l y95]],[[.l l1,.i .i64 (asI (outC y84 0 1)),.i .i64 (asI (outC y84 0 2))]])
      else
       if y35==(4:Int) then
        let y96:=asI (outC y34 0 1)
        let y97:=asI (outC y34 0 2)
        let y98:=t29 l1 y96 y97 (4:Int)
        chk (okR zr29 zo29 y98) <|
        let y99:=([[.i .i64 (asI (resC y98 0 0))]]:Rw)
        let y100:=asL (resC y31 0 10)
        chk ((flatR 1 y99)&&decide (y100.length+y99.length≤lim)) <|
        let y101:=asI (resC y31 0 0)
        let y102:=asI (resC y31 0 1)
        let y103:=asI (resC y31 0 2)
        let y104:=asI (resC y31 0 3)
        let y105:=asI (resC y31 0 4)
        let y106:=asI (resC y31 0 5)
        let y107:=asI (resC y31 0 6)
        let y108:=asI (resC y31 0 7)
        let y109:=asL (resC y31 0 8)
        let y110:=asI (resC y31 0 9)
        let y111:=asL (resC y31 0 11)
        let y112:=asL (resC y31 0 12)
        some ([.agg [.i .i64 y101,.i .i64 y102,.i .i64 y103,.i .i64 y104,.i .i64 y105,.i .i64 y106,.i .i64 y107,.i .i64 y108,.l y109,.i .i64 y110,.l (y100++y99),.l y111,.l y112]],[[.l l1,.i .i64 (asI (outC y98 0 1)),.i .i64 (asI (outC y98 0 2))]])
       else
        if y35==(5:Int) then
         let y113:=asI (outC y34 0 1)
         let y114:=asI (outC y34 0 2)
         let y115:=t29 l1 y113 y114 (7:Int)
         chk (okR zr29 zo29 y115) <|
         let y116:=asI (resC y31 0 0)
         let y117:=asI (resC y31 0 1)
         let y118:=asI (resC y31 0 2)
         let y119:=asI (resC y31 0 3)
         let y120:=asI (resC y31 0 4)
         let y121:=asI (resC y31 0 6)
         let y122:=asI (resC y31 0 7)
         let y123:=asL (resC y31 0 8)
         let y124:=asI (resC y31 0 9)
         let y125:=asL (resC y31 0 10)
         let y126:=asL (resC y31 0 11)
         let y127:=asL (resC y31 0 12)
         some ([.agg [.i .i64 y116,.i .i64 y117,.i .i64 y118,.i .i64 y119,.i .i64 y120,.i .i64 (w64 ((asI (resC y115 0 0)) - (2:Int))),.i .i64 y121,.i .i64 y122,.l y123,.i .i64 y124,.l y125,.l y126,.l y127]],[[.l l1,.i .i64 (asI (outC y115 0 1)),.i .i64 (asI (outC y115 0 2))]])
        else
         if y35==(6:Int) then
          let k1:=fun (n4 n5:Int) (l2:Rw) =>
           let y128:=asI (resC y31 0 0)
           let y129:=asI (resC y31 0 1)
           let y130:=asI (resC y31 0 2)
           let y131:=asI (resC y31 0 3)
           let y132:=asI (resC y31 0 4)
           let y133:=asI (resC y31 0 5)
           let y134:=asI (resC y31 0 6)
           let y135:=asI (resC y31 0 7)
           let y136:=asL (resC y31 0 8)
           let y137:=asI (resC y31 0 9)
           let y138:=asL (resC y31 0 10)
           let y139:=asL (resC y31 0 12)
           some ([.agg [.i .i64 y128,.i .i64 y129,.i .i64 y130,.i .i64 y131,.i .i64 y132,.i .i64 y133,.i .i64 y134,.i .i64 y135,.l y136,.i .i64 y137,.l y138,.l l2,.l y139]],[[.l l1,.i .i64 n4,.i .i64 n5]])
          let y140:=asL (resC y31 0 11)
          if decide ((y140.length:Int) > (0:Int)) then
           let y141:=asI (outC y34 0 1)
           let y142:=asI (outC y34 0 2)
           let y143:=t29 l1 y141 y142 (y140.length:Int)
           chk (okR zr29 zo29 y143) <|
           let y144:=t29 l1 (asI (outC y143 0 1)) (asI (outC y143 0 2)) (8:Int)
           chk (okR zr29 zo29 y144) <|
           let y145:=asI (resC y143 0 0)
           chk (decide (0≤y145)&&decide (y145 < y140.length)) <|
           let y146:=y145.toNat
           chk (decide (1≤1∧y146 < y140.length)) <|
           k1 (asI (outC y144 0 1)) (asI (outC y144 0 2)) (stR y140 y146 0 [.i .i64 (asI (resC y144 0 0))])
          else
           let y147:=asI (outC y34 0 1)
           let y148:=asI (outC y34 0 2)
           k1 y147 y148 y140
         else
          if y35==(7:Int) then
           let k2:=fun (n6 n7:Int) (l3:Rw) =>
            let y149:=asI (resC y31 0 0)
            let y150:=asI (resC y31 0 1)
            let y151:=asI (resC y31 0 2)
            let y152:=asI (resC y31 0 3)
            let y153:=asI (resC y31 0 4)
            let y154:=asI (resC y31 0 5)
            let y155:=asI (resC y31 0 6)
            let y156:=asI (resC y31 0 7)
            let y157:=asL (resC y31 0 8)
            let y158:=asI (resC y31 0 9)
            let y159:=asL (resC y31 0 10)
            let y160:=asL (resC y31 0 11)
            some ([.agg [.i .i64 y149,.i .i64 y150,.i .i64 y151,.i .i64 y152,.i .i64 y153,.i .i64 y154,.i .i64 y155,.i .i64 y156,.l y157,.i .i64 y158,.l y159,.l y160,.l l3]],[[.l l1,.i .i64 n6,.i .i64 n7]])
           let y161:=asL (resC y31 0 12)
           if decide ((y161.length:Int) > (0:Int)) then
            let y162:=asI (outC y34 0 1)
            let y163:=asI (outC y34 0 2)
            let y164:=t29 l1 y162 y163 (y161.length:Int)
            chk (okR zr29 zo29 y164) <|
            let y165:=t29 l1 (asI (outC y164 0 1)) (asI (outC y164 0 2)) (8:Int)
            chk (okR zr29 zo29 y165) <|
            let y166:=asI (resC y164 0 0)
            chk (decide (0≤y166)&&decide (y166 < y161.length)) <|
            let y167:=y166.toNat
            chk (decide (1≤1∧y167 < y161.length)) <|
            k2 (asI (outC y165 0 1)) (asI (outC y165 0 2)) (stR y161 y167 0 [.i .i64 (w64 ((asI (resC y165 0 0)) - (1:Int)))])
           else
            let y168:=asI (outC y34 0 1)
            let y169:=asI (outC y34 0 2)
            k2 y168 y169 y161
          else
           let y170:=asI (outC y34 0 1)
           let y171:=asI (outC y34 0 2)
           let y172:=t29 l1 y170 y171 (7:Int)
           chk (okR zr29 zo29 y172) <|
           let y173:=asI (resC y31 0 0)
           let y174:=asI (resC y31 0 1)
           let y175:=asI (resC y31 0 2)
           let y176:=asI (resC y31 0 4)
           let y177:=asI (resC y31 0 5)
           let y178:=asI (resC y31 0 6)
           let y179:=asI (resC y31 0 7)
           let y180:=asL (resC y31 0 8)
           let y181:=asI (resC y31 0 9)
           let y182:=asL (resC y31 0 10)
           let y183:=asL (resC y31 0 11)
           let y184:=asL (resC y31 0 12)
           some ([.agg [.i .i64 y173,.i .i64 y174,.i .i64 y175,.i .i64 (w64 ((asI (resC y172 0 0)) - (2:Int))),.i .i64 y176,.i .i64 y177,.i .i64 y178,.i .i64 y179,.l y180,.i .i64 y181,.l y182,.l y183,.l y184]],[[.l l1,.i .i64 (asI (outC y172 0 1)),.i .i64 (asI (outC y172 0 2))]])
def t15:Y15:=ta15 t17 t29 t31 t34 t35
def zr15:List DV:=[.agg [.i .i64 0,.i .i64 0,.i .i64 0,.i .i64 0,.i .i64 0,.i .i64 0,.i .i64 0,.i .i64 0,.l [],.i .i64 0,.l [],.l [],.l []]]
def zo15:Rw:=[[.l [],.i .i64 0,.i .i64 0]]
def A15:List TA:=[.ptr [.l,.i .i64,.i .i64],.one (.i .i64)]
abbrev Y10:=Rw→Rs
def la10o1 (t14:Y14) (t15:Y15) (t16:Y16) (t17:Y17) (t28:Y28) (t29:Y29) (l1:Rw) (s1 s2:ByteArray) (n1:Int) (b1:Bool) (n2 n3 n4 n5 n6 n7 n8 n9 n10:Int) (l2:Rw) (n11 n12:Int) (q1:Bool→Rw→Rs):Nat→SV→Rw→Rs
  | 0,_,_=>none
  | m+1,v1,l3 =>
    let y1:=decide ((l3.length:Int) < n1)
    if y1 then
     let y2:=([[.i .u8 (99:Int)]]:Rw)
     chk ((flatR 1 y2)&&decide (l3.length+y2.length≤lim)) <|
     la10o1 t14 t15 t16 t17 t28 t29 l1 s1 s2 n1 b1 n2 n3 n4 n5 n6 n7 n8 n9 n10 l2 n11 n12 q1 m (.d (.b y1)) (l3++y2)
    else
     q1 y1 l3
def ta10 (t14:Y14) (t15:Y15) (t16:Y16) (t17:Y17) (t28:Y28) (t29:Y29) (l1:Rw):Rs :=
  chk (okR zr14 zo14 (t14 l1)) <|
  let y1:=asL (resC (t14 l1) 0 0)
  let y2:=t28 y1 (asI (resC (t14 l1) 0 1)) (asI (resC (t14 l1) 0 2)) (10:Int)
  chk (okR zr28 zo28 y2) <|
  let y3:=t17 y1 (asI (outC y2 0 1)) (asI (outC y2 0 2)) (20:Int)
  chk (okR zr17 zo17 y3) <|
  let y4:=asB (resC y3 0 0)
  if y4 then
   let y5:=asI (outC y3 0 1)
   let y6:=asI (outC y3 0 2)
   let y7:=t29 y1 y5 y6 (2:Int)
   chk (okR zr29 zo29 y7) <|
   let y8:=asS (resC y2 0 0)
   let y9:=asI (outC y7 0 1)
   let y10:=asI (outC y7 0 2)
   la10o1 t14 t15 t16 t17 t28 t29 l1 (⟨#[]⟩:ByteArray) y8 (w64 ((1600:Int)+(asI (resC y7 0 0)))) y4 (0:Int) (0:Int) (0:Int) (0:Int) (0:Int) (0:Int) (0:Int) (0:Int) (0:Int) y1 y9 y10
    (fun (b1:Bool) (l2:Rw) =>
     chk (isBytes l2) <|
     let y11:=t16 l1 (20:Int)
     chk (okR zr16 zo16 y11) <|
     let y12:=t15 y1 y9 y10 (asI (resC y11 0 0))
     chk (okR zr15 zo15 y12) <|
     some ([.agg [.i .i64 (asI (resC y12 0 0)),.i .i64 (asI (resC y12 0 1)),.i .i64 (asI (resC y12 0 2)),.i .i64 (asI (resC y12 0 3)),.i .i64 (asI (resC y12 0 4)),.i .i64 (asI (resC y12 0 5)),.i .i64 (asI (resC y12 0 6)),.i .i64 (asI (resC y12 0 7)),.l (asL (resC y12 0 8)),.i .i64 (asI (resC y12 0 9)),.l (asL (resC y12 0 10)),.l (asL (resC y12 0 11)),.l (asL (resC y12 0 12))],.one (.s ⟨(bytesD l2).toArray⟩)],[])) KK SV.undef ([]:Rw)
  else
   let y13:=t16 l1 (20:Int)
   chk (okR zr16 zo16 y13) <|
   let y14:=asI (outC y3 0 1)
   let y15:=asI (outC y3 0 2)
   let y16:=t15 y1 y14 y15 (asI (resC y13 0 0))
   chk (okR zr15 zo15 y16) <|
   let y17:=asS (resC y2 0 0)
   some ([.agg [.i .i64 (asI (resC y16 0 0)),.i .i64 (asI (resC y16 0 1)),.i .i64 (asI (resC y16 0 2)),.i .i64 (asI (resC y16 0 3)),.i .i64 (asI (resC y16 0 4)),.i .i64 (asI (resC y16 0 5)),.i .i64 (asI (resC y16 0 6)),.i .i64 (asI (resC y16 0 7)),.l (asL (resC y16 0 8)),.i .i64 (asI (resC y16 0 9)),.l (asL (resC y16 0 10)),.l (asL (resC y16 0 11)),.l (asL (resC y16 0 12))],.one (.s y17)],[])
def t10:Y10:=ta10 t14 t15 t16 t17 t28 t29
def zr10:List DV:=[.agg [.i .i64 0,.i .i64 0,.i .i64 0,.i .i64 0,.i .i64 0,.i .i64 0,.i .i64 0,.i .i64 0,.l [],.i .i64 0,.l [],.l [],.l []],.one (.s ⟨#[]⟩)]
def zo10:Rw:=[]
def A10:List TA:=[.one (.l)]
abbrev Y40:=Int→Int→Int→Rs
def t40 (n1 n2 n3:Int):Rs :=
  some ([.one (.b ((decide (n1 ≥ n2))&&(decide (n1≤n3))))],[])
def zr40:List DV:=[.one (.b false)]
def zo40:Rw:=[]
def A40:List TA:=[.one (.i .i64),.one (.i .i64),.one (.i .i64)]
abbrev Y42:=Int→Int→Int→Int→Int→Int→Int→Int→Rw→Int→Rw→Rw→Rw→ByteArray→Rs
def t42 (n1 n2 n3 n4 n5 n6 n7 n8:Int) (l1:Rw) (n9:Int) (l2 l3 l4:Rw) (s1:ByteArray):Rs :=
  chk ((flatR 2 l1)&&decide (l1.length≤lim)) <|
  let k1:=fun (n10 n11:Int) (s2:ByteArray) =>
   some ([.agg [.i .i64 n3,.i .i64 n4,.i .i64 n10,.i .i64 n11,.s s2,.l l1]],[])
  if n7 != (0:Int) then
   k1 n7 n8 s1
  else
   k1 (0:Int) (0:Int) (⟨#[]⟩:ByteArray)
def zr42:List DV:=[.agg [.i .i64 0,.i .i64 0,.i .i64 0,.i .i64 0,.s ⟨#[]⟩,.l []]]
def zo42:Rw:=[]
def A42:List TA:=[.ptr [.i .i64,.i .i64,.i .i64,.i .i64,.i .i64,.i .i64,.i .i64,.i .i64,.l,.i .i64,.l,.l,.l],.one (.s)]
abbrev Y41:=Int→Int→Int→Int→ByteArray→Rw→Rs
def la41o2 (t40:Y40) (n1 n2 n3 n4:Int) (s1:ByteArray) (l1:Rw) (b1 b2 b3:Bool) (l2:Rw) (n5 n6 n7 n8 n9:Int) (s2:ByteArray) (l3:Rw) (q1:Int→Int→Bool→Bool→Int→ByteArray→Rs) (q2:Int→Int→Bool→SV→Rs):Nat→Int→Int→SV→SV→Rs
  | 0,_,_,_,_=>none
  | m+1,n10,n11,v1,v2 =>
    let y1:=decide (n11 < n5)
    if y1 then
     let y2:=l2.getD n11.toNat []
     chk (decide (0≤n11)&&decide (n11 < l2.length)&&isRow z38 y2) <|
     let y3:=asI (nthD y2 0)
     let y4:=t40 y3 n10 n6
     let y5:=asS (nthD y2 1)
     let y6:=decide ((y5.size:Int) > (1600:Int))
     chk ((okR zr40 zo40 y4)||!(!y6)) <|
     let y7:=y6||(!(asB (resC y4 0 0)))
     if y7 then
      q1 n10 n11 y1 y7 y3 y5
     else
      la41o2 t40 n1 n2 n3 n4 s1 l1 b1 b2 b3 l2 n5 n6 n7 n8 n9 s2 l3 q1 q2 m y3 (w64 (n11+(1:Int))) (.d (.b y1)) (.d (.b y7))
    else
     q2 n10 n11 y1 (keepV [64] v2)
def ta41 (t40:Y40) (n1 n2 n3 n4:Int) (s1:ByteArray) (l1:Rw):Rs :=
  let y1:=t40 n1 (0:Int) (100000:Int)
  chk (okR zr40 zo40 y1) <|
  let y2:=t40 n2 (-1:Int) (4:Int)
  let y3:=!(asB (resC y1 0 0))
  chk ((okR zr40 zo40 y2)||!(!y3)) <|
  let y4:=(y3||(!(asB (resC y2 0 0))))||(decide ((l1.length:Int) > (60:Int)))
  if y4 then
   some ([.one (.b false)],[])
  else
   let y5:=t40 n3 (1:Int) (100000:Int)
   let y6:=!((n3==(0:Int))&&((n4==(0:Int))&&((s1.toList==(⟨#[]⟩:ByteArray).toList)&&true)))
   chk ((okR zr40 zo40 y5)||!y6) <|
   let y7:=t40 n4 (1:Int) n1
   let y8:=!(asB (resC y5 0 0))
   chk ((okR zr40 zo40 y7)||!(y6&&(!y8))) <|
   let y9:=y6&&((y8||(!(asB (resC y7 0 0))))||(decide ((s1.size:Int) > (20000:Int))))
   if y9 then
    some ([.one (.b false)],[])
   else
    la41o2 t40 n1 n2 n3 n4 s1 l1 false y4 y9 l1 (l1.length:Int) n1 n2 n3 n4 s1 l1
     (fun (n5 n6:Int) (b1 b2:Bool) (n7:Int) (s2:ByteArray) =>
      some ([.one (.b false)],[]))
     (fun (n8 n9:Int) (b3:Bool) (v1:SV) =>
      some ([.one (.b (decide ((w64 (n3+(l1.length:Int)))≤(100000:Int))))],[])) KK (if n4 > (1:Int) then n4 else (1:Int)) (0:Int) SV.undef SV.undef
def t41:Y41:=ta41 t40
def zr41:List DV:=[.one (.b false)]
def zo41:Rw:=[]
def A41:List TA:=[.agg [.i .i64,.i .i64,.i .i64,.i .i64,.s,.l]]
abbrev Y43:=Int→Int→Int→Int→Int→Int→Int→Int→Rw→Int→Rw→Rw→Rw→Rs
def t43 (n1 n2 n3 n4 n5 n6 n7 n8:Int) (l1:Rw) (n9:Int) (l2 l3 l4:Rw):Rs :=
  some ([.one (.i .i64 (w64 (n7+(l1.length:Int))))],[])
def zr43:List DV:=[.one (.i .i64 0)]
def zo43:Rw:=[]
def A43:List TA:=[.ptr [.i .i64,.i .i64,.i .i64,.i .i64,.i .i64,.i .i64,.i .i64,.i .i64,.l,.i .i64,.l,.l,.l]]
abbrev Y79:=Rw→Int→Rs
def l79o0 (l1:Rw) (n1 n2 n3:Int) (q1:Int→Bool→Bool→Rs) (q2:SV→Int→Bool→SV→Rs):Nat→SV→Int→SV→SV→Rs
  | 0,_,_,_,_=>none
  | m+1,v1,n4,v2,v3 =>
    let y1:=decide (n4 < n3)
    if y1 then
     let y2:=l1.getD n4.toNat []
     chk (decide (0≤n4)&&decide (n4 < l1.length)&&isRow z3 y2) <|
     let y3:=n1==(asI (nthD y2 0))
     if y3 then
      q1 n4 y1 y3
     else
      l79o0 l1 n1 n2 n3 q1 q2 m (.d (.i .i64 n4)) (w64 (n4+(1:Int))) (.d (.b y1)) (.d (.b y3))
    else
     q2 (keepV [] v1) n4 y1 (keepV [] v3)
def t79 (l1:Rw) (n1:Int):Rs :=
  l79o0 l1 n1 (0:Int) (l1.length:Int)
   (fun (n2:Int) (b1 b2:Bool) =>
    some ([.one (.i .i64 n2)],[]))
   (fun (v1:SV) (n3:Int) (b3:Bool) (v2:SV) =>
    some ([.one (.i .i64 (-1:Int))],[])) KK SV.undef (0:Int) SV.undef SV.undef
def zr79:List DV:=[.one (.i .i64 0)]
def zo79:Rw:=[]
def A79:List TA:=[.one (.l),.one (.i .i64)]
abbrev Y65:=Rw→Int→Rs
def ta65 (t79:Y79) (l1:Rw) (n1:Int):Rs :=
  chk (okR zr79 zo79 (t79 l1 n1)) <|
  some ([.one (.b (decide ((asI (resC (t79 l1 n1) 0 0)) ≥ (0:Int))))],[])
def t65:Y65:=ta65 t79
def zr65:List DV:=[.one (.b false)]
def zo65:Rw:=[]
def A65:List TA:=[.one (.l),.one (.i .i64)]
abbrev Y66:=Int→Int→Int→Int→Int→Int→Int→Int→Rw→Int→Rw→Rw→Rw→Int→Rs
def t66 (n1 n2 n3 n4 n5 n6 n7 n8:Int) (l1:Rw) (n9:Int) (l2 l3 l4:Rw) (n10:Int):Rs :=
  some ([.one (.b (decide ((w64 ((2:Int) * n10)) > n2)))],[])
def zr66:List DV:=[.one (.b false)]
def zo66:Rw:=[]
def A66:List TA:=[.ptr [.i .i64,.i .i64,.i .i64,.i .i64,.i .i64,.i .i64,.i .i64,.i .i64,.l,.i .i64,.l,.l,.l],.one (.i .i64)]
abbrev Y44:=Int→Int→Int→Int→Int→Int→Int→Int→Rw→Int→Rw→Rw→Rw→Rs
def la44o0 (t40:Y40) (t65:Y65) (t66:Y66) (n1 n2 n3 n4 n5 n6 n7 n8:Int) (l1:Rw) (n9:Int) (l2 l3 l4:Rw) (b1:Bool) (l5:Rw) (n10:Int) (q1:Int→Int→Bool→Bool→Rs) (q2:SV→SV→Int→Bool→SV→Rs):Nat→SV→SV→Int→SV→SV→Rs
  | 0,_,_,_,_,_=>none
  | m+1,v1,v2,n11,v3,v4 =>
    let y1:=decide (n11 < n10)
    if y1 then
     let y2:=l5.getD n11.toNat []
     chk (decide (0≤n11)&&decide (n11 < l5.length)&&isRow z3 y2) <|
     let y3:=asI (nthD y2 0)
     let y4:=t40 y3 (0:Int) (w64 (n2 - (1:Int)))
     chk (okR zr40 zo40 y4) <|
     let y5:=w64 (n11 - (1:Int))
     let y6:=l2.getD y5.toNat []
     let y7:=!(asB (resC y4 0 0))
     let y8:=decide (n11 > (0:Int))
     chk ((decide (0≤y5)&&decide (y5 < l2.length)&&isRow z3 y6)||!((!y7)&&y8)) <|
     let y9:=y7||(y8&&(decide ((asI (nthD y6 0)) ≥ y3)))
     if y9 then
      q1 n11 y3 y1 y9
     else
      la44o0 t40 t65 t66 n1 n2 n3 n4 n5 n6 n7 n8 l1 n9 l2 l3 l4 b1 l5 n10 q1 q2 m (.d (.i .i64 n11)) (.d (.i .i64 y3)) (w64 (n11+(1:Int))) (.d (.b y1)) (.d (.b y9))
    else
     q2 (keepV [] v1) (keepV [] v2) n11 y1 (keepV [] v4)
def ta44 (t40:Y40) (t65:Y65) (t66:Y66) (n1 n2 n3 n4 n5 n6 n7 n8:Int) (l1:Rw) (n9:Int) (l2 l3 l4:Rw):Rs :=
  la44o0 t40 t65 t66 n1 n2 n3 n4 n5 n6 n7 n8 l1 n9 l2 l3 l4 false l2 (l2.length:Int)
   (fun (n10 n11:Int) (b1 b2:Bool) =>
    some ([.one (.b false)],[]))
   (fun (v1 v2:SV) (n12:Int) (b3:Bool) (v3:SV) =>
    let y1:=((decide (n3 ≥ (1:Int)))&&(n4==n1))&&(n6==(-1:Int))
    chk ((okR zr65 zo65 (t65 l2 n1))||!y1) <|
    let y2:=t66 n1 n2 n3 n4 n5 n6 n7 n8 l1 n9 l2 l3 l4 (l2.length:Int)
    let y3:=y1&&(asB (resC (t65 l2 n1) 0 0))
    chk ((okR zr66 zo66 y2)||!y3) <|
    some ([.one (.b ((y3&&(!(asB (resC y2 0 0))))&&((w64 ((l3.length:Int)+(l4.length:Int)))==(0:Int))))],[])) KK SV.undef SV.undef (0:Int) SV.undef SV.undef
def t44:Y44:=ta44 t40 t65 t66
def zr44:List DV:=[.one (.b false)]
def zo44:Rw:=[]
def A44:List TA:=[.ptr [.i .i64,.i .i64,.i .i64,.i .i64,.i .i64,.i .i64,.i .i64,.i .i64,.l,.i .i64,.l,.l,.l]]
abbrev Y45:=Int→Int→Int→Int→Int→Int→Int→Int→Rw→Int→Rw→Rw→Rw→Rs
def la45o1 (t43:Y43) (n1 n2 n3 n4 n5 n6 n7 n8:Int) (l1:Rw) (n9:Int) (l2 l3 l4:Rw) (b1 b2:Bool) (l5:Rw) (n10:Int) (q1:Int→Int→Bool→Bool→Rs) (q2:SV→SV→Int→Bool→SV→Rs):Nat→SV→SV→Int→SV→SV→Rs
  | 0,_,_,_,_,_=>none
  | m+1,v1,v2,n11,v3,v4 =>
    let y1:=decide (n11 < n10)
    if y1 then
     let y2:=l5.getD n11.toNat []
     chk (decide (0≤n11)&&decide (n11 < l5.length)&&isRow z3 y2) <|
     let y3:=l3.getD n11.toNat []
     let y4:=asI (nthD y2 0)
     let y5:=decide (y4 < (0:Int))
     chk ((decide (0≤n11)&&decide (n11 < l3.length)&&isRow z3 y3)||!(!y5)) <|
     let y6:=l3.getD n11.toNat []
     let y7:=y5||(decide ((asI (nthD y3 0))≤y4))
     chk ((decide (0≤n11)&&decide (n11 < l3.length)&&isRow z3 y6)||!(!y7)) <|
     let y8:=t43 n1 n2 n3 n4 n5 n6 n7 n8 l1 n9 l2 l3 l4
     chk ((okR zr43 zo43 y8)||!(!y7)) <|
     let y9:=y7||(decide ((asI (nthD y6 0)) > (w64 ((asI (resC y8 0 0))+(1:Int)))))
     if y9 then
      q1 n11 y4 y1 y9
     else
      la45o1 t43 n1 n2 n3 n4 n5 n6 n7 n8 l1 n9 l2 l3 l4 b1 b2 l5 n10 q1 q2 m (.d (.i .i64 n11)) (.d (.i .i64 y4)) (w64 (n11+(1:Int))) (.d (.b y1)) (.d (.b y9))
    else
     q2 (keepV [] v1) (keepV [] v2) n11 y1 (keepV [] v4)
def ta45 (t43:Y43) (n1 n2 n3 n4 n5 n6 n7 n8:Int) (l1:Rw) (n9:Int) (l2 l3 l4:Rw):Rs :=
  let y1:=(((((decide (n3 < (1:Int)))||(n4 != n1))||(n6 != n1))||(decide ((l2.length:Int) > (0:Int))))||((l3.length:Int) != n2))||((l4.length:Int) != n2)
  if y1 then
   some ([.one (.b false)],[])
  else
   la45o1 t43 n1 n2 n3 n4 n5 n6 n7 n8 l1 n9 l2 l3 l4 false y1 l4 (l4.length:Int)
    (fun (n10 n11:Int) (b1 b2:Bool) =>
     some ([.one (.b false)],[]))
    (fun (v1 v2:SV) (n12:Int) (b3:Bool) (v3:SV) =>
     let y2:=l4.getD n1.toNat []
     chk (decide (0≤n1)&&decide (n1 < l4.length)&&isRow z3 y2) <|
     let y3:=t43 n1 n2 n3 n4 n5 n6 n7 n8 l1 n9 l2 l3 l4
     chk (okR zr43 zo43 y3) <|
     some ([.one (.b ((asI (nthD y2 0))==(asI (resC y3 0 0))))],[])) KK SV.undef SV.undef (0:Int) SV.undef SV.undef
def t45:Y45:=ta45 t43
def zr45:List DV:=[.one (.b false)]
def zo45:Rw:=[]
def A45:List TA:=[.ptr [.i .i64,.i .i64,.i .i64,.i .i64,.i .i64,.i .i64,.i .i64,.i .i64,.l,.i .i64,.l,.l,.l]]
abbrev Y25:=Int→Int→Int→Int→Int→Int→Int→Int→Rw→Int→Rw→Rw→Rw→Rs
def ta25 (t40:Y40) (t41:Y41) (t42:Y42) (t43:Y43) (t44:Y44) (t45:Y45) (n1 n2 n3 n4 n5 n6 n7 n8:Int) (l1:Rw) (n9:Int) (l2 l3 l4:Rw):Rs :=
  let y1:=t40 n2 (1:Int) (5:Int)
  chk (okR zr40 zo40 y1) <|
  let y2:=t40 n1 (0:Int) (w64 (n2 - (1:Int)))
  let y3:=!(asB (resC y1 0 0))
  chk ((okR zr40 zo40 y2)||!(!y3)) <|
  let y4:=(((y3||(!(asB (resC y2 0 0))))||(decide (n4 ≥ n2)))||(decide (n7 < (0:Int))))||((n7==(0:Int))&&(n8 != (0:Int)))
  if !y4 then
   let y5:=t42 n1 n2 n3 n4 n5 n6 n7 n8 l1 n9 l2 l3 l4 (⟨#[]⟩:ByteArray)
   chk (okR zr42 zo42 y5) <|
   let y6:=t41 (asI (resC y5 0 0)) (asI (resC y5 0 1)) (asI (resC y5 0 2)) (asI (resC y5 0 3)) (asS (resC y5 0 4)) (asL (resC y5 0 5))
   chk ((okR zr41 zo41 y6)||!(!y4)) <|
   let y7:=t43 n1 n2 n3 n4 n5 n6 n7 n8 l1 n9 l2 l3 l4
   let y8:=y4||(!(asB (resC y6 0 0)))
   chk ((okR zr43 zo43 y7)||!(!y8)) <|
   let y9:=t40 n9 n7 (asI (resC y7 0 0))
   chk ((okR zr40 zo40 y9)||!(!y8)) <|
   if y8||(!(asB (resC y9 0 0))) then
    some ([.one (.b false)],[])
   else
    if n5==(1:Int) then
     let y10:=t40 n6 (-1:Int) (w64 (n2 - (1:Int)))
     chk (okR zr40 zo40 y10) <|
     some ([.one (.b (((asB (resC y10 0 0))&&(n6 != n1))&&((w64 ((w64 ((l2.length:Int)+(l3.length:Int)))+(l4.length:Int)))==(0:Int))))],[])
    else
     if n5==(2:Int) then
      let y11:=t44 n1 n2 n3 n4 n5 n6 n7 n8 l1 n9 l2 l3 l4
      chk (okR zr44 zo44 y11) <|
      some ([.one (.b (asB (resC y11 0 0)))],[])
     else
      if n5==(3:Int) then
       let y12:=t45 n1 n2 n3 n4 n5 n6 n7 n8 l1 n9 l2 l3 l4
       chk (okR zr45 zo45 y12) <|
       some ([.one (.b (asB (resC y12 0 0)))],[])
      else
       some ([.one (.b false)],[])
  else
   if !y4 then
    none
   else
    if !y4 then
     none
    else
     chk (y4) <|
     let y13:=t43 n1 n2 n3 n4 n5 n6 n7 n8 l1 n9 l2 l3 l4
     chk ((okR zr43 zo43 y13)||!false) <|
     chk ((okR zr40 zo40 (t40 n9 n7 (asI (resC y13 0 0))))||!false) <|
     some ([.one (.b false)],[])
def t25:Y25:=ta25 t40 t41 t42 t43 t44 t45
def zr25:List DV:=[.one (.b false)]
def zo25:Rw:=[]
def A25:List TA:=[.agg [.i .i64,.i .i64,.i .i64,.i .i64,.i .i64,.i .i64,.i .i64,.i .i64,.l,.i .i64,.l,.l,.l]]
abbrev Y46:=Rw→Rs
def t46 (l1:Rw):Rs :=
  chk ((flatR 1 l1)&&decide (l1.length≤lim)) <|
  some ([.one (.l l1)],[])
def zr46:List DV:=[.one (.l [])]
def zo46:Rw:=[]
def A46:List TA:=[.one (.l)]
abbrev Y26:=Int→Int→Int→Int→Int→Int→Int→Int→Rw→Int→Rw→Rw→Rw→Rs
def ta26 (t46:Y46) (n1 n2 n3 n4 n5 n6 n7 n8:Int) (l1:Rw) (n9:Int) (l2 l3 l4:Rw):Rs :=
  chk ((flatR 2 l1)&&decide (l1.length≤lim)) <|
  chk (okR zr46 zo46 (t46 l2)) <|
  chk (okR zr46 zo46 (t46 l3)) <|
  chk (okR zr46 zo46 (t46 l4)) <|
  some ([.agg [.i .i64 n1,.i .i64 n2,.i .i64 n3,.i .i64 n4,.i .i64 n5,.i .i64 n6,.i .i64 n7,.i .i64 n8,.l l1,.i .i64 n9,.l (asL (resC (t46 l2) 0 0)),.l (asL (resC (t46 l3) 0 0)),.l (asL (resC (t46 l4) 0 0))]],[])
def t26:Y26:=ta26 t46
def zr26:List DV:=[.agg [.i .i64 0,.i .i64 0,.i .i64 0,.i .i64 0,.i .i64 0,.i .i64 0,.i .i64 0,.i .i64 0,.l [],.i .i64 0,.l [],.l [],.l []]]
def zo26:Rw:=[]
def A26:List TA:=[.agg [.i .i64,.i .i64,.i .i64,.i .i64,.i .i64,.i .i64,.i .i64,.i .i64,.l,.i .i64,.l,.l,.l]]
abbrev Y56:=Int→Int→Int→Int→Int→Int→Int→Int→Rw→Int→Rw→Rw→Rw→Rs
def ta56 (t43:Y43) (n1 n2 n3 n4 n5 n6 n7 n8:Int) (l1:Rw) (n9:Int) (l2 l3 l4:Rw):Rs :=
  let y1:=t43 n1 n2 n3 n4 n5 n6 n7 n8 l1 n9 l2 l3 l4
  let y2:=decide ((l1.length:Int) < (60:Int))
  chk ((okR zr43 zo43 y1)||!y2) <|
  some ([.one (.b (y2&&(decide ((asI (resC y1 0 0)) < (100000:Int)))))],[])
def t56:Y56:=ta56 t43
def zr56:List DV:=[.one (.b false)]
def zo56:Rw:=[]
def A56:List TA:=[.ptr [.i .i64,.i .i64,.i .i64,.i .i64,.i .i64,.i .i64,.i .i64,.i .i64,.l,.i .i64,.l,.l,.l]]
abbrev Y57:=Int→Int→Int→Int→Int→Int→Int→Int→Rw→Int→Rw→Rw→Rw→Rs
def ta57 (t43:Y43) (n1 n2 n3 n4 n5 n6 n7 n8:Int) (l1:Rw) (n9:Int) (l2 l3 l4:Rw):Rs :=
  let y1:=t43 n1 n2 n3 n4 n5 n6 n7 n8 l1 n9 l2 l3 l4
  chk (okR zr43 zo43 y1) <|
  chk (decide (0≤n1)&&decide (n1 < l4.length)) <|
  chk (decide (1≤1∧(n1.toNat) < l4.length)) <|
  let y2:=stR l4 (n1.toNat) 0 [.i .i64 (asI (resC y1 0 0))]
  let y3:=t43 n1 n2 n3 n4 n5 n6 n7 n8 l1 n9 l2 l3 y2
  chk (okR zr43 zo43 y3) <|
  chk (decide (0≤n1)&&decide (n1 < l3.length)) <|
  chk (decide (1≤1∧(n1.toNat) < l3.length)) <|
  some ([],[[.i .i64 n1,.i .i64 n2,.i .i64 n3,.i .i64 n4,.i .i64 n5,.i .i64 n6,.i .i64 n7,.i .i64 n8,.l l1,.i .i64 n9,.l l2,.l (stR l3 (n1.toNat) 0 [.i .i64 (w64 ((asI (resC y3 0 0))+(1:Int)))]),.l y2]])
def t57:Y57:=ta57 t43
def zr57:List DV:=[]
def zo57:Rw:=[[.i .i64 0,.i .i64 0,.i .i64 0,.i .i64 0,.i .i64 0,.i .i64 0,.i .i64 0,.i .i64 0,.l [],.i .i64 0,.l [],.l [],.l []]]
def A57:List TA:=[.ptr [.i .i64,.i .i64,.i .i64,.i .i64,.i .i64,.i .i64,.i .i64,.i .i64,.l,.i .i64,.l,.l,.l]]
abbrev Y70:=Int→Int→Int→Int→Int→Int→Int→Int→Rw→Int→Rw→Rw→Rw→Int→Rs
def t70 (n1 n2 n3 n4 n5 n6 n7 n8:Int) (l1:Rw) (n9:Int) (l2 l3 l4:Rw) (n10:Int):Rs :=
  if n10==n7 then
   some ([.one (.i .i64 n8)],[])
  else
   let y1:=w64 ((w64 (n10 - n7)) - (1:Int))
   let y2:=l1.getD y1.toNat []
   chk (decide (0≤y1)&&decide (y1 < l1.length)&&isRow z38 y2) <|
   some ([.one (.i .i64 (asI (nthD y2 0)))],[])
def zr70:List DV:=[.one (.i .i64 0)]
def zo70:Rw:=[]
def A70:List TA:=[.ptr [.i .i64,.i .i64,.i .i64,.i .i64,.i .i64,.i .i64,.i .i64,.i .i64,.l,.i .i64,.l,.l,.l],.one (.i .i64)]
abbrev Y58:=Int→Int→Int→Int→Int→Int→Int→Int→Rw→Int→Rw→Rw→Rw→Rs
def la58o2 (t43:Y43) (t66:Y66) (t70:Y70) (n1:Int) (b1:Bool) (n2 n3 n4 n5 n6 n7 n8 n9 n10 n11:Int) (l1 l2 l3 l4:Rw) (q1:Int→SV→Int→Bool→SV→SV→Rs):Nat→Int→SV→Int→SV→SV→SV→Rs
  | 0,_,_,_,_,_,_=>none
  | m+1,n12,v1,n13,v2,v3,v4 =>
    let y1:=decide (n13 < n2)
    if y1 then
     chk (decide (0≤n13)&&decide (n13 < l4.length)) <|
     let y2:=l4.getD (n13.toNat) []
     chk (decide (1≤y2.length)&&isF z3 0 y2) <|
     let k1:=fun (n14:Int) =>
      let y3:=asI (nthD y2 0)
      let y4:=decide (y3 ≥ n1)
      la58o2 t43 t66 t70 n1 b1 n2 n3 n4 n5 n6 n7 n8 n9 n10 n11 l1 l2 l3 l4 q1 m n14 (.d (.i .i64 y3)) (w64 (n13+(1:Int))) (.d (.b y1)) (.d (.b y4)) (keepV [0,9,11,12,13] v4)
     let y5:=asI (nthD y2 0)
     let y6:=decide (y5 ≥ n1)
     if y6 then
      k1 (w64 (n12+(1:Int)))
     else
      k1 n12
    else
     q1 n12 (keepV [0,9,11,12,13] v1) n13 y1 (keepV [0,9,11,12,13] v3) (keepV [0,9,11,12,13] v4)
def la58o0 (t43:Y43) (t66:Y66) (t70:Y70) (n1 n2 n3 n4 n5 n6 n7 n8 n9:Int) (l1 l2 l3 l4:Rw) (q1:Int→Int→SV→Bool→Int→Int→Bool→SV→Bool→Rs) (q2:Int→SV→SV→Bool→SV→SV→SV→SV→SV→SV→Rs):Nat→Int→SV→SV→SV→SV→SV→SV→SV→SV→SV→Rs
  | 0,_,_,_,_,_,_,_,_,_,_=>none
  | m+1,n10,v1,v2,v3,v4,v5,v6,v7,v8,v9 =>
    let y1:=decide (n10 > n9)
    if y1 then
     let y2:=(l4.length:Int)
     la58o2 t43 t66 t70 n10 y1 y2 n1 n2 n3 n4 n5 n6 n7 n8 n9 l1 l2 l3 l4
      (fun (n11:Int) (v10:SV) (n12:Int) (b1:Bool) (v11 v12:SV) =>
       let y3:=t70 n1 n2 n3 n4 n5 n6 n7 n8 l1 n9 l2 l3 l4 n10
       chk (okR zr70 zo70 y3) <|
       let y4:=t66 n1 n2 n3 n4 n5 n6 n7 n8 l1 n9 l2 l3 l4 n11
       let y5:=(asI (resC y3 0 0))==n3
       chk ((okR zr66 zo66 y4)||!y5) <|
       let y6:=y5&&(asB (resC y4 0 0))
       if y6 then
        q1 n10 n11 v10 y1 y2 n12 b1 v11 y6
       else
        la58o0 t43 t66 t70 n1 n2 n3 n4 n5 n6 n7 n8 n9 l1 l2 l3 l4 q1 q2 m (w64 (n10 - (1:Int))) (.d (.i .i64 n11)) (keepV [0,9,11,12,13] v10) (.d (.b y1)) (SV.own 13) (.d (.i .i64 y2)) (.d (.i .i64 n12)) (.d (.b b1)) (keepV [0,9,11,12,13] v11) (.d (.b y6))) KK (0:Int) v2 (0:Int) v7 v8 v9
    else
     q2 n10 (keepV [0,9,11,12,13] v1) (keepV [0,9,11,12,13] v2) y1 (keepV [0,9,11,12,13] v4) (keepV [0,9,11,12,13] v5) (keepV [0,9,11,12,13] v6) (keepV [0,9,11,12,13] v7) (keepV [0,9,11,12,13] v8) (keepV [0,9,11,12,13] v9)
def ta58 (t43:Y43) (t66:Y66) (t70:Y70) (n1 n2 n3 n4 n5 n6 n7 n8:Int) (l1:Rw) (n9:Int) (l2 l3 l4:Rw):Rs :=
  let y1:=t43 n1 n2 n3 n4 n5 n6 n7 n8 l1 n9 l2 l3 l4
  chk (okR zr43 zo43 y1) <|
  la58o0 t43 t66 t70 n1 n2 n3 n4 n5 n6 n7 n8 n9 l1 l2 l3 l4
   (fun (n10 n11:Int) (v1:SV) (b1:Bool) (n12 n13:Int) (b2:Bool) (v2:SV) (b3:Bool) =>
    some ([],[[.i .i64 n1,.i .i64 n2,.i .i64 n3,.i .i64 n4,.i .i64 n5,.i .i64 n6,.i .i64 n7,.i .i64 n8,.l l1,.i .i64 n10,.l l2,.l l3,.l l4]]))
   (fun (n14:Int) (v3 v4:SV) (b4:Bool) (v5 v6 v7 v8 v9 v10:SV) =>
    some ([],[[.i .i64 n1,.i .i64 n2,.i .i64 n3,.i .i64 n4,.i .i64 n5,.i .i64 n6,.i .i64 n7,.i .i64 n8,.l l1,.i .i64 n9,.l l2,.l l3,.l l4]])) KK (asI (resC y1 0 0)) SV.undef SV.undef SV.undef SV.undef SV.undef SV.undef SV.undef SV.undef SV.undef
def t58:Y58:=ta58 t43 t66 t70
def zr58:List DV:=[]
def zo58:Rw:=[[.i .i64 0,.i .i64 0,.i .i64 0,.i .i64 0,.i .i64 0,.i .i64 0,.i .i64 0,.i .i64 0,.l [],.i .i64 0,.l [],.l [],.l []]]
def A58:List TA:=[.ptr [.i .i64,.i .i64,.i .i64,.i .i64,.i .i64,.i .i64,.i .i64,.i .i64,.l,.i .i64,.l,.l,.l]]
abbrev Y75:=Int→Int→Int→Int→Int→Int→Int→Int→Rw→Int→Rw→Rw→Rw→Rs
def l75o0 (n1 n2 n3 n4 n5 n6 n7 n8:Int) (l1:Rw) (n9:Int) (l2 l3 l4:Rw) (n10:Int) (q1:SV→Int→Bool→SV→Rw→Rs):Nat→SV→Int→SV→SV→Rw→Rs
  | 0,_,_,_,_,_=>none
  | m+1,v1,n11,v2,v3,l5 =>
    let y1:=decide (n11 < n10)
    if y1 then
     let k1:=fun (l6:Rw) =>
      l75o0 n1 n2 n3 n4 n5 n6 n7 n8 l1 n9 l2 l3 l4 n10 q1 m (.d (.i .i64 n11)) (w64 (n11+(1:Int))) (.d (.b y1)) (.d (.b (n11 != n1))) l6
     if n11 != n1 then
      let y2:=([[.i .i64 n11]]:Rw)
      chk ((flatR 1 y2)&&decide (l5.length+y2.length≤lim)) <|
      k1 (l5++y2)
     else
      k1 l5
    else
     q1 (keepV [320] v1) n11 y1 (keepV [320] v3) l5
def t75 (n1 n2 n3 n4 n5 n6 n7 n8:Int) (l1:Rw) (n9:Int) (l2 l3 l4:Rw):Rs :=
  l75o0 n1 n2 n3 n4 n5 n6 n7 n8 l1 n9 l2 l3 l4 n2
   (fun (v1:SV) (n10:Int) (b1:Bool) (v2:SV) (l5:Rw) =>
    some ([.one (.l l5)],[])) KK SV.undef (0:Int) SV.undef SV.undef ([]:Rw)
def zr75:List DV:=[.one (.l [])]
def zo75:Rw:=[]
def A75:List TA:=[.ptr [.i .i64,.i .i64,.i .i64,.i .i64,.i .i64,.i .i64,.i .i64,.i .i64,.l,.i .i64,.l,.l,.l]]
abbrev Y74:=Int→Int→Int→Int→Int→Int→Int→Int→Rw→Int→Rw→Rw→Rw→Int→Rs
def ta74 (t70:Y70) (n1 n2 n3 n4 n5 n6 n7 n8:Int) (l1:Rw) (n9:Int) (l2 l3 l4:Rw) (n10:Int):Rs :=
  let y1:=l3.getD n10.toNat []
  chk (decide (0≤n10)&&decide (n10 < l3.length)&&isRow z3 y1) <|
  let y2:=asI (nthD y1 0)
  if decide (y2≤n7) then
   some ([.agg [.i .i64 (5:Int),.i .i64 n1,.i .i64 n10,.i .i64 n3,.i .i64 n7,.i .i64 n8,.i .i64 (0:Int),.b false,.l ([]:Rw),.s (⟨#[]⟩:ByteArray)]],[])
  else
   let y3:=t70 n1 n2 n3 n4 n5 n6 n7 n8 l1 n9 l2 l3 l4 (w64 (y2 - (1:Int)))
   chk (okR zr70 zo70 y3) <|
   let y4:=w64 ((w64 (y2 - (1:Int))) - n7)
   chk (decide (0≤y4∧y4≤l1.length∧(l1.getD 0 z38).length=z38.length)) <|
   let y5:=l1.drop y4.toNat
   let y6:=(y5.length:Int)
   let y7:=if y6 < (4:Int) then y6 else (4:Int)
   chk (decide (0≤(0:Int)∧(0:Int)≤y7∧y7≤y5.length∧(y5.getD 0 z38).length=z38.length)) <|
   let y8:=(y5.take y7.toNat).drop (0:Int).toNat
   chk ((flatR 2 y8)&&decide (y8.length≤lim)) <|
   some ([.agg [.i .i64 (3:Int),.i .i64 n1,.i .i64 n10,.i .i64 n3,.i .i64 (w64 (y2 - (1:Int))),.i .i64 (asI (resC y3 0 0)),.i .i64 n9,.b false,.l y8,.s (⟨#[]⟩:ByteArray)]],[])
def t74:Y74:=ta74 t70
def zr74:List DV:=[.agg [.i .i64 0,.i .i64 0,.i .i64 0,.i .i64 0,.i .i64 0,.i .i64 0,.i .i64 0,.b false,.l [],.s ⟨#[]⟩]]
def zo74:Rw:=[]
def A74:List TA:=[.ptr [.i .i64,.i .i64,.i .i64,.i .i64,.i .i64,.i .i64,.i .i64,.i .i64,.l,.i .i64,.l,.l,.l],.one (.i .i64)]
abbrev Y59:=Int→Int→Int→Int→Int→Int→Int→Int→Rw→Int→Rw→Rw→Rw→Rs
def la59o0 (t74:Y74) (t75:Y75) (n1 n2 n3 n4 n5 n6 n7 n8:Int) (l1:Rw) (n9:Int) (l2 l3 l4:Rw) (n10:Int) (l5:Rw) (q1:SV→Int→Bool→Rw→Rs):Nat→SV→Int→SV→Rw→Rs
  | 0,_,_,_,_=>none
  | m+1,v1,n11,v2,l6 =>
    let y1:=decide (n11 < n10)
    if y1 then
     chk (decide (0≤n11)&&decide (n11 < l5.length)) <|
     let y2:=l5.getD (n11.toNat) []
     chk (decide (1≤y2.length)&&isF z3 0 y2) <|
     let y3:=asI (nthD y2 0)
     let y4:=t74 n1 n2 n3 n4 n5 n6 n7 n8 l1 n9 l2 l3 l4 y3
     chk (okR zr74 zo74 y4) <|
     let y5:=([[.i .i64 (asI (resC y4 0 0)),.i .i64 (asI (resC y4 0 1)),.i .i64 (asI (resC y4 0 2)),.i .i64 (asI (resC y4 0 3)),.i .i64 (asI (resC y4 0 4)),.i .i64 (asI (resC y4 0 5)),.i .i64 (asI (resC y4 0 6)),.b (asB (resC y4 0 7)),.l (asL (resC y4 0 8)),.s (asS (resC y4 0 9))]]:Rw)
     chk (true&&decide (l6.length+y5.length≤lim)) <|
     la59o0 t74 t75 n1 n2 n3 n4 n5 n6 n7 n8 l1 n9 l2 l3 l4 n10 l5 q1 m (.d (.i .i64 y3)) (w64 (n11+(1:Int))) (.d (.b y1)) (l6++y5)
    else
     q1 (keepV [384,512] v1) n11 y1 l6
def ta59 (t74:Y74) (t75:Y75) (n1 n2 n3 n4 n5 n6 n7 n8:Int) (l1:Rw) (n9:Int) (l2 l3 l4:Rw):Rs :=
  let y1:=t75 n1 n2 n3 n4 n5 n6 n7 n8 l1 n9 l2 l3 l4
  chk (okR zr75 zo75 y1) <|
  let y2:=asL (resC y1 0 0)
  la59o0 t74 t75 n1 n2 n3 n4 n5 n6 n7 n8 l1 n9 l2 l3 l4 (y2.length:Int) y2
   (fun (v1:SV) (n10:Int) (b1:Bool) (l5:Rw) =>
    some ([.one (.l l5)],[])) KK SV.undef (0:Int) SV.undef ([]:Rw)
def t59:Y59:=ta59 t74 t75
def zr59:List DV:=[.one (.l [])]
def zo59:Rw:=[]
def A59:List TA:=[.ptr [.i .i64,.i .i64,.i .i64,.i .i64,.i .i64,.i .i64,.i .i64,.i .i64,.l,.i .i64,.l,.l,.l]]
abbrev Y30:=Int→Int→Int→Int→Int→Int→Int→Int→Rw→Int→Rw→Rw→Rw→ByteArray→Rs
def ta30 (t43:Y43) (t56:Y56) (t57:Y57) (t58:Y58) (t59:Y59) (n1 n2 n3 n4 n5 n6 n7 n8:Int) (l1:Rw) (n9:Int) (l2 l3 l4:Rw) (s1:ByteArray):Rs :=
  let y1:=t56 n1 n2 n3 n4 n5 n6 n7 n8 l1 n9 l2 l3 l4
  let y2:=(n5 != (3:Int))||(decide ((s1.size:Int) > (1600:Int)))
  chk ((okR zr56 zo56 y1)||!(!y2)) <|
  if y2||(!(asB (resC y1 0 0))) then
   some ([.one (.l ([]:Rw)),.one (.i .i64 (0:Int))],[[.i .i64 n1,.i .i64 n2,.i .i64 n3,.i .i64 n4,.i .i64 n5,.i .i64 n6,.i .i64 n7,.i .i64 n8,.l l1,.i .i64 n9,.l l2,.l l3,.l l4]])
  else
   let y3:=([[.i .i64 n3,.s s1]]:Rw)
   chk ((flatR 2 y3)&&decide (l1.length+y3.length≤lim)) <|
   let y4:=t57 n1 n2 n3 n4 n5 n6 n7 n8 (l1++y3) n9 l2 l3 l4
   chk (okR zr57 zo57 y4) <|
   let y5:=t58 (asI (outC y4 0 0)) (asI (outC y4 0 1)) (asI (outC y4 0 2)) (asI (outC y4 0 3)) (asI (outC y4 0 4)) (asI (outC y4 0 5)) (asI (outC y4 0 6)) (asI (outC y4 0 7)) (asL (outC y4 0 8)) (asI (outC y4 0 9)) (asL (outC y4 0 10)) (asL (outC y4 0 11)) (asL (outC y4 0 12))
   chk (okR zr58 zo58 y5) <|
   let y6:=asI (outC y5 0 0)
   let y7:=asI (outC y5 0 1)
   let y8:=asI (outC y5 0 2)
   let y9:=asI (outC y5 0 3)
   let y10:=asI (outC y5 0 4)
   let y11:=asI (outC y5 0 5)
   let y12:=asI (outC y5 0 6)
   let y13:=asI (outC y5 0 7)
   let y14:=asL (outC y5 0 8)
   let y15:=asI (outC y5 0 9)
   let y16:=asL (outC y5 0 10)
   let y17:=asL (outC y5 0 11)
   let y18:=asL (outC y5 0 12)
   let y19:=t59 y6 y7 y8 y9 y10 y11 y12 y13 y14 y15 y16 y17 y18
   chk (okR zr59 zo59 y19) <|
   let y20:=t43 y6 y7 y8 y9 y10 y11 y12 y13 y14 y15 y16 y17 y18
   chk (okR zr43 zo43 y20) <|
   some ([.one (.l (asL (resC y19 0 0))),.one (.i .i64 (asI (resC y20 0 0)))],[[.i .i64 y6,.i .i64 y7,.i .i64 y8,.i .i64 y9,.i .i64 y10,.i .i64 y11,.i .i64 y12,.i .i64 y13,.l y14,.i .i64 y15,.l y16,.l y17,.l y18]])
def t30:Y30:=ta30 t43 t56 t57 t58 t59
def zr30:List DV:=[.one (.l []),.one (.i .i64 0)]
def zo30:Rw:=[[.i .i64 0,.i .i64 0,.i .i64 0,.i .i64 0,.i .i64 0,.i .i64 0,.i .i64 0,.i .i64 0,.l [],.i .i64 0,.l [],.l [],.l []]]
def A30:List TA:=[.ptr [.i .i64,.i .i64,.i .i64,.i .i64,.i .i64,.i .i64,.i .i64,.i .i64,.l,.i .i64,.l,.l,.l],.one (.s)]
abbrev Y11:=Int→Int→Int→Int→Int→Int→Int→Int→Rw→Int→Rw→Rw→Rw→ByteArray→Rs
def ta11 (t25:Y25) (t26:Y26) (t30:Y30) (n1 n2 n3 n4 n5 n6 n7 n8:Int) (l1:Rw) (n9:Int) (l2 l3 l4:Rw) (s1:ByteArray):Rs :=
  let y1:=t25 n1 n2 n3 n4 n5 n6 n7 n8 l1 n9 l2 l3 l4
  chk (okR zr25 zo25 y1) <|
  if !(asB (resC y1 0 0)) then
   some ([.agg [.i .i64 (0:Int),.i .i64 (0:Int),.i .i64 (0:Int),.i .i64 (0:Int),.i .i64 (0:Int),.i .i64 (0:Int),.i .i64 (0:Int),.i .i64 (0:Int),.l ([]:Rw),.i .i64 (0:Int),.l ([]:Rw),.l ([]:Rw),.l ([]:Rw)],.one (.l ([]:Rw)),.one (.i .i64 (0:Int))],[])
  else
   let y2:=t26 n1 n2 n3 n4 n5 n6 n7 n8 l1 n9 l2 l3 l4
   chk (okR zr26 zo26 y2) <|
   let y3:=t30 (asI (resC y2 0 0)) (asI (resC y2 0 1)) (asI (resC y2 0 2)) (asI (resC y2 0 3)) (asI (resC y2 0 4)) (asI (resC y2 0 5)) (asI (resC y2 0 6)) (asI (resC y2 0 7)) (asL (resC y2 0 8)) (asI (resC y2 0 9)) (asL (resC y2 0 10)) (asL (resC y2 0 11)) (asL (resC y2 0 12)) s1
   chk (okR zr30 zo30 y3) <|
   some ([.agg [.i .i64 (asI (outC y3 0 0)),.i .i64 (asI (outC y3 0 1)),.i .i64 (asI (outC y3 0 2)),.i .i64 (asI (outC y3 0 3)),.i .i64 (asI (outC y3 0 4)),.i .i64 (asI (outC y3 0 5)),.i .i64 (asI (outC y3 0 6)),.i .i64 (asI (outC y3 0 7)),.l (asL (outC y3 0 8)),.i .i64 (asI (outC y3 0 9)),.l (asL (outC y3 0 10)),.l (asL (outC y3 0 11)),.l (asL (outC y3 0 12))],.one (.l (asL (resC y3 0 0))),.one (.i .i64 (asI (resC y3 1 0)))],[])
def t11:Y11:=ta11 t25 t26 t30
def zr11:List DV:=[.agg [.i .i64 0,.i .i64 0,.i .i64 0,.i .i64 0,.i .i64 0,.i .i64 0,.i .i64 0,.i .i64 0,.l [],.i .i64 0,.l [],.l [],.l []],.one (.l []),.one (.i .i64 0)]
def zo11:Rw:=[]
def A11:List TA:=[.agg [.i .i64,.i .i64,.i .i64,.i .i64,.i .i64,.i .i64,.i .i64,.i .i64,.l,.i .i64,.l,.l,.l],.one (.s)]
abbrev Y13:=Rw→Rw→Rs
def l13o1 (l1 l2:Rw) (b1 b2:Bool) (q1:Int→Bool→Bool→Rs) (q2:Int→Bool→SV→Rs):Nat→Int→SV→SV→Rs
  | 0,_,_,_=>none
  | m+1,n1,v1,v2 =>
    let y1:=decide (n1 < (l1.length:Int))
    if y1 then
     let y2:=l1.getD n1.toNat []
     chk (decide (0≤n1)&&decide (n1 < l1.length)&&isRow z38 y2) <|
     let y3:=l2.getD n1.toNat []
     chk (decide (0≤n1)&&decide (n1 < l2.length)&&isRow z38 y3) <|
     let y4:=!(((asI (nthD y2 0))==(asI (nthD y3 0)))&&(((asS (nthD y2 1)).toList==(asS (nthD y3 1)).toList)&&true))
     if y4 then
      q1 n1 y1 y4
     else
      l13o1 l1 l2 b1 b2 q1 q2 m (w64 (n1+(1:Int))) (.d (.b y1)) (.d (.b y4))
    else
     q2 n1 y1 (keepV [] v2)
def t13 (l1 l2:Rw):Rs :=
  let y1:=(l1.length:Int) != (l2.length:Int)
  if y1 then
   some ([.one (.b false)],[])
  else
   l13o1 l1 l2 false y1
    (fun (n1:Int) (b1 b2:Bool) =>
     some ([.one (.b false)],[]))
    (fun (n2:Int) (b3:Bool) (v1:SV) =>
     some ([.one (.b true)],[])) KK (0:Int) SV.undef SV.undef
def zr13:List DV:=[.one (.b false)]
def zo13:Rw:=[]
def A13:List TA:=[.one (.l),.one (.l)]
abbrev Y67:=Int→Int→Rs
def ta67 (t40:Y40) (n1 n2:Int):Rs :=
  let y1:=t40 n1 (1:Int) (100000:Int)
  let y2:=(n1==(0:Int))&&(n2==(0:Int))
  chk ((okR zr40 zo40 y1)||!(!y2)) <|
  let y3:=t40 n2 (1:Int) (100000:Int)
  let y4:=asB (resC y1 0 0)
  chk ((okR zr40 zo40 y3)||!((!y2)&&y4)) <|
  some ([.one (.b (y2||(y4&&(asB (resC y3 0 0)))))],[])
def t67:Y67:=ta67 t40
def zr67:List DV:=[.one (.b false)]
def zo67:Rw:=[]
def A67:List TA:=[.one (.i .i64),.one (.i .i64)]
abbrev Y68:=Int→Int→Int→Int→Int→Int→Int→Bool→Rw→ByteArray→Rs
def la68o0 (t40:Y40) (n1 n2 n3 n4 n5 n6 n7:Int) (b1:Bool) (l1:Rw) (s1:ByteArray) (b2:Bool) (l2:Rw) (n8:Int) (q1:Int→Int→Bool→Bool→Int→ByteArray→Rs) (q2:Int→Int→Bool→SV→Rs):Nat→Int→Int→SV→SV→Rs
  | 0,_,_,_,_=>none
  | m+1,n9,n10,v1,v2 =>
    let y1:=decide (n10 < n8)
    if y1 then
     let y2:=l2.getD n10.toNat []
     chk (decide (0≤n10)&&decide (n10 < l2.length)&&isRow z38 y2) <|
     let y3:=asI (nthD y2 0)
     let y4:=t40 y3 n9 n4
     let y5:=asS (nthD y2 1)
     let y6:=decide ((y5.size:Int) > (1600:Int))
     chk ((okR zr40 zo40 y4)||!(!y6)) <|
     let y7:=y6||(!(asB (resC y4 0 0)))
     if y7 then
      q1 n9 n10 y1 y7 y3 y5
     else
      la68o0 t40 n1 n2 n3 n4 n5 n6 n7 b1 l1 s1 b2 l2 n8 q1 q2 m y3 (w64 (n10+(1:Int))) (.d (.b y1)) (.d (.b y7))
    else
     q2 n9 n10 y1 (keepV [] v2)
def ta68 (t40:Y40) (n1 n2 n3 n4 n5 n6 n7:Int) (b1:Bool) (l1:Rw) (s1:ByteArray):Rs :=
  la68o0 t40 n1 n2 n3 n4 n5 n6 n7 b1 l1 s1 false l1 (l1.length:Int)
   (fun (n8 n9:Int) (b2 b3:Bool) (n10:Int) (s2:ByteArray) =>
    some ([.one (.b false)],[]))
   (fun (n11 n12:Int) (b4:Bool) (v1:SV) =>
    some ([.one (.b ((decide ((l1.length:Int)≤(4:Int)))&&(decide ((w64 (n5+(l1.length:Int)))≤(100000:Int)))))],[])) KK (if n6 > (1:Int) then n6 else (1:Int)) (0:Int) SV.undef SV.undef
def t68:Y68:=ta68 t40
def zr68:List DV:=[.one (.b false)]
def zo68:Rw:=[]
def A68:List TA:=[.ptr [.i .i64,.i .i64,.i .i64,.i .i64,.i .i64,.i .i64,.i .i64,.b,.l,.s]]
abbrev Y80:=Rw→Rw→Rs
def l80o1 (l1 l2:Rw) (b1 b2:Bool) (n1:Int) (q1:Int→Bool→Bool→Rs) (q2:SV→Int→Bool→SV→Rs):Nat→SV→Int→SV→SV→Rs
  | 0,_,_,_,_=>none
  | m+1,v1,n2,v2,v3 =>
    let y1:=decide (n2 < n1)
    if y1 then
     let y2:=l1.getD n2.toNat []
     chk (decide (0≤n2)&&decide (n2 < l1.length)&&isRow z38 y2) <|
     let y3:=l2.getD n2.toNat []
     chk (decide (0≤n2)&&decide (n2 < l2.length)&&isRow z38 y3) <|
     let y4:=!(((asI (nthD y2 0))==(asI (nthD y3 0)))&&(((asS (nthD y2 1)).toList==(asS (nthD y3 1)).toList)&&true))
     if y4 then
      q1 n2 y1 y4
     else
      l80o1 l1 l2 b1 b2 n1 q1 q2 m (.d (.i .i64 n2)) (w64 (n2+(1:Int))) (.d (.b y1)) (.d (.b y4))
    else
     q2 (keepV [] v1) n2 y1 (keepV [] v3)
def t80 (l1 l2:Rw):Rs :=
  let y1:=(l1.length:Int) != (l2.length:Int)
  if y1 then
   some ([.one (.b false)],[])
  else
   l80o1 l1 l2 false y1 (l1.length:Int)
    (fun (n1:Int) (b1 b2:Bool) =>
     some ([.one (.b false)],[]))
    (fun (v1:SV) (n2:Int) (b3:Bool) (v2:SV) =>
     some ([.one (.b true)],[])) KK SV.undef (0:Int) SV.undef SV.undef
def zr80:List DV:=[.one (.b false)]
def zo80:Rw:=[]
def A80:List TA:=[.one (.l),.one (.l)]
abbrev Y69:=Int→Int→Int→Int→Int→Int→Int→Bool→Rw→ByteArray→Int→Int→Int→Int→Int→Int→Int→Bool→Rw→ByteArray→Rs
def ta69 (t80:Y80) (n1 n2 n3 n4 n5 n6 n7:Int) (b1:Bool) (l1:Rw) (s1:ByteArray) (n8 n9 n10 n11 n12 n13 n14:Int) (b2:Bool) (l2:Rw) (s2:ByteArray):Rs :=
  let y1:=(((((((n1==n8)&&(n2==n9))&&(n3==n10))&&(n4==n11))&&(n5==n12))&&(n6==n13))&&(n7==n14))&&(b1==b2)
  chk ((okR zr80 zo80 (t80 l1 l2))||!y1) <|
  some ([.one (.b ((y1&&(asB (resC (t80 l1 l2) 0 0)))&&(s1.toList==s2.toList)))],[])
def t69:Y69:=ta69 t80
def zr69:List DV:=[.one (.b false)]
def zo69:Rw:=[]
def A69:List TA:=[.agg [.i .i64,.i .i64,.i .i64,.i .i64,.i .i64,.i .i64,.i .i64,.b,.l,.s],.agg [.i .i64,.i .i64,.i .i64,.i .i64,.i .i64,.i .i64,.i .i64,.b,.l,.s]]
abbrev Y47:=Int→Int→Int→Int→Int→Int→Int→Bool→Rw→ByteArray→Rs
def ta47 (t40:Y40) (t67:Y67) (t68:Y68) (t69:Y69) (n1 n2 n3 n4 n5 n6 n7:Int) (b1:Bool) (l1:Rw) (s1:ByteArray):Rs :=
  let y1:=t40 n2 (0:Int) (4:Int)
  chk (okR zr40 zo40 y1) <|
  let y2:=t40 n3 (0:Int) (4:Int)
  let y3:=asB (resC y1 0 0)
  chk ((okR zr40 zo40 y2)||!y3) <|
  let y4:=t40 n4 (1:Int) (100000:Int)
  let y5:=(y3&&(asB (resC y2 0 0)))&&(n2 != n3)
  chk ((okR zr40 zo40 y4)||!y5) <|
  if n1==(1:Int) then
   let y6:=y5&&(asB (resC y4 0 0))
   chk ((okR zr67 zo67 (t67 n5 n6))||!y6) <|
   let y7:=t69 n1 n2 n3 n4 n5 n6 n7 b1 l1 s1 n1 n2 n3 n4 n5 n6 (0:Int) false ([]:Rw) (⟨#[]⟩:ByteArray)
   let y8:=(y6&&(asB (resC (t67 n5 n6) 0 0)))&&(decide (n6≤n4))
   chk ((okR zr69 zo69 y7)||!y8) <|
   some ([.one (.b (y8&&(asB (resC y7 0 0))))],[])
  else
   if n1==(2:Int) then
    let y9:=t69 n1 n2 n3 n4 n5 n6 n7 b1 l1 s1 n1 n2 n3 n4 (0:Int) (0:Int) (0:Int) b1 ([]:Rw) (⟨#[]⟩:ByteArray)
    let y10:=y5&&(asB (resC y4 0 0))
    chk ((okR zr69 zo69 y9)||!y10) <|
    some ([.one (.b (y10&&(asB (resC y9 0 0))))],[])
   else
    if n1==(3:Int) then
     let y11:=y5&&(asB (resC y4 0 0))
     chk ((okR zr67 zo67 (t67 n5 n6))||!y11) <|
     let y12:=t40 n7 (0:Int) (100000:Int)
     let y13:=(y11&&(asB (resC (t67 n5 n6) 0 0)))&&(decide (n6≤n4))
     chk ((okR zr40 zo40 y12)||!y13) <|
     let y14:=t68 n1 n2 n3 n4 n5 n6 n7 b1 l1 s1
     let y15:=y13&&(asB (resC y12 0 0))
     chk ((okR zr68 zo68 y14)||!y15) <|
     let y16:=t69 n1 n2 n3 n4 n5 n6 n7 b1 l1 s1 n1 n2 n3 n4 n5 n6 n7 false l1 (⟨#[]⟩:ByteArray)
     let y17:=y15&&(asB (resC y14 0 0))
     chk ((okR zr69 zo69 y16)||!y17) <|
     some ([.one (.b (y17&&(asB (resC y16 0 0))))],[])
    else
     if n1==(4:Int) then
      let y18:=t40 n5 (0:Int) (100000:Int)
      let y19:=y5&&(asB (resC y4 0 0))
      chk ((okR zr40 zo40 y18)||!y19) <|
      let y20:=t69 n1 n2 n3 n4 n5 n6 n7 b1 l1 s1 n1 n2 n3 n4 n5 (0:Int) (0:Int) b1 ([]:Rw) (⟨#[]⟩:ByteArray)
      let y21:=y19&&(asB (resC y18 0 0))
      chk ((okR zr69 zo69 y20)||!y21) <|
      some ([.one (.b (y21&&(asB (resC y20 0 0))))],[])
     else
      if n1==(5:Int) then
       let y22:=t40 n5 (1:Int) (100000:Int)
       let y23:=y5&&(asB (resC y4 0 0))
       chk ((okR zr40 zo40 y22)||!y23) <|
       let y24:=t40 n6 (1:Int) n4
       let y25:=y23&&(asB (resC y22 0 0))
       chk ((okR zr40 zo40 y24)||!y25) <|
       let y26:=t69 n1 n2 n3 n4 n5 n6 n7 b1 l1 s1 n1 n2 n3 n4 n5 n6 (0:Int) false ([]:Rw) s1
       let y27:=(y25&&(asB (resC y24 0 0)))&&(decide ((s1.size:Int)≤(20000:Int)))
       chk ((okR zr69 zo69 y26)||!y27) <|
       some ([.one (.b (y27&&(asB (resC y26 0 0))))],[])
      else
       some ([.one (.b false)],[])
def t47:Y47:=ta47 t40 t67 t68 t69
def zr47:List DV:=[.one (.b false)]
def zo47:Rw:=[]
def A47:List TA:=[.agg [.i .i64,.i .i64,.i .i64,.i .i64,.i .i64,.i .i64,.i .i64,.b,.l,.s]]
abbrev Y48:=Int→Int→Int→Int→Int→Int→Int→Int→Rw→Int→Rw→Rw→Rw→Int→Int→Int→Int→Int→Int→Int→Bool→Rw→ByteArray→Bool→Int→Rs
def t48 (n1 n2 n3 n4 n5 n6 n7 n8:Int) (l1:Rw) (n9:Int) (l2 l3 l4:Rw) (n10 n11 n12 n13 n14 n15 n16:Int) (b1:Bool) (l5:Rw) (s1:ByteArray) (b2:Bool) (n17:Int):Rs :=
  some ([.one (.l ([[.i .i64 (4:Int),.i .i64 n1,.i .i64 n11,.i .i64 n3,.i .i64 n17,.i .i64 (0:Int),.i .i64 (0:Int),.b b2,.l ([]:Rw),.s (⟨#[]⟩:ByteArray)]]:Rw))],[])
def zr48:List DV:=[.one (.l [])]
def zo48:Rw:=[]
def A48:List TA:=[.ptr [.i .i64,.i .i64,.i .i64,.i .i64,.i .i64,.i .i64,.i .i64,.i .i64,.l,.i .i64,.l,.l,.l],.agg [.i .i64,.i .i64,.i .i64,.i .i64,.i .i64,.i .i64,.i .i64,.b,.l,.s],.one (.b),.one (.i .i64)]
abbrev Y49:=Int→Int→Int→Int→Int→Int→Int→Int→Rw→Int→Rw→Rw→Rw→Int→Rs
def t49 (n1 n2 n3 n4 n5 n6 n7 n8:Int) (l1:Rw) (n9:Int) (l2 l3 l4:Rw) (n10:Int):Rs :=
  let k1:=fun (n11:Int) =>
   some ([],[[.i .i64 n1,.i .i64 n2,.i .i64 n10,.i .i64 n11,.i .i64 (1:Int),.i .i64 (-1:Int),.i .i64 n7,.i .i64 n8,.l l1,.i .i64 n9,.l ([]:Rw),.l ([]:Rw),.l ([]:Rw)]])
  if n10 != n3 then
   k1 (-1:Int)
  else
   k1 n4
def zr49:List DV:=[]
def zo49:Rw:=[[.i .i64 0,.i .i64 0,.i .i64 0,.i .i64 0,.i .i64 0,.i .i64 0,.i .i64 0,.i .i64 0,.l [],.i .i64 0,.l [],.l [],.l []]]
def A49:List TA:=[.ptr [.i .i64,.i .i64,.i .i64,.i .i64,.i .i64,.i .i64,.i .i64,.i .i64,.l,.i .i64,.l,.l,.l],.one (.i .i64)]
abbrev Y50:=Int→Int→Int→Int→Int→Int→Int→Int→Rw→Int→Rw→Rw→Rw→Int→Int→Int→Int→Int→Int→Int→Bool→Rw→ByteArray→Rs
def t50 (n1 n2 n3 n4 n5 n6 n7 n8:Int) (l1:Rw) (n9:Int) (l2 l3 l4:Rw) (n10 n11 n12 n13 n14 n15 n16:Int) (b1:Bool) (l5:Rw) (s1:ByteArray):Rs :=
  none
def zr50:List DV:=[.one (.l [])]
def zo50:Rw:=[]
def A50:List TA:=[.ptr [.i .i64,.i .i64,.i .i64,.i .i64,.i .i64,.i .i64,.i .i64,.i .i64,.l,.i .i64,.l,.l,.l],.agg [.i .i64,.i .i64,.i .i64,.i .i64,.i .i64,.i .i64,.i .i64,.b,.l,.s]]
abbrev Y51:=Int→Int→Int→Int→Int→Int→Int→Int→Rw→Int→Rw→Rw→Rw→Int→Int→Int→Int→Int→Int→Int→Bool→Rw→ByteArray→Rs
def t51 (n1 n2 n3 n4 n5 n6 n7 n8:Int) (l1:Rw) (n9:Int) (l2 l3 l4:Rw) (n10 n11 n12 n13 n14 n15 n16:Int) (b1:Bool) (l5:Rw) (s1:ByteArray):Rs :=
  none
def zr51:List DV:=[.one (.l [])]
def zo51:Rw:=[]
def A51:List TA:=[.ptr [.i .i64,.i .i64,.i .i64,.i .i64,.i .i64,.i .i64,.i .i64,.i .i64,.l,.i .i64,.l,.l,.l],.agg [.i .i64,.i .i64,.i .i64,.i .i64,.i .i64,.i .i64,.i .i64,.b,.l,.s]]
abbrev Y52:=Int→Int→Int→Int→Int→Int→Int→Int→Rw→Int→Rw→Rw→Rw→Int→Int→Int→Int→Int→Int→Int→Bool→Rw→ByteArray→Rs
def t52 (n1 n2 n3 n4 n5 n6 n7 n8:Int) (l1:Rw) (n9:Int) (l2 l3 l4:Rw) (n10 n11 n12 n13 n14 n15 n16:Int) (b1:Bool) (l5:Rw) (s1:ByteArray):Rs :=
  none
def zr52:List DV:=[.one (.l [])]
def zo52:Rw:=[]
def A52:List TA:=[.ptr [.i .i64,.i .i64,.i .i64,.i .i64,.i .i64,.i .i64,.i .i64,.i .i64,.l,.i .i64,.l,.l,.l],.agg [.i .i64,.i .i64,.i .i64,.i .i64,.i .i64,.i .i64,.i .i64,.b,.l,.s]]
abbrev Y53:=Int→Int→Int→Int→Int→Int→Int→Int→Rw→Int→Rw→Rw→Rw→Int→Int→Int→Int→Int→Int→Int→Bool→Rw→ByteArray→Rs
def ta53 (t43:Y43) (t58:Y58) (t74:Y74) (n1 n2 n3 n4 n5 n6 n7 n8:Int) (l1:Rw) (n9:Int) (l2 l3 l4:Rw) (n10 n11 n12 n13 n14 n15 n16:Int) (b1:Bool) (l5:Rw) (s1:ByteArray):Rs :=
  if n5 != (3:Int) then
   some ([.one (.l ([]:Rw))],[[.i .i64 n1,.i .i64 n2,.i .i64 n3,.i .i64 n4,.i .i64 n5,.i .i64 n6,.i .i64 n7,.i .i64 n8,.l l1,.i .i64 n9,.l l2,.l l3,.l l4]])
  else
   if b1 then
    let y1:=t43 n1 n2 n3 n4 n5 n6 n7 n8 l1 n9 l2 l3 l4
    chk (okR zr43 zo43 y1) <|
    chk (decide (0≤n11)&&decide (n11 < l4.length)) <|
    let y2:=l4.getD (n11.toNat) []
    chk (decide (1≤y2.length)&&isF z3 0 y2) <|
    let y3:=asI (resC y1 0 0)
    let y4:=if y3 < n14 then y3 else n14
    if decide (y4≤(asI (nthD y2 0))) then
     some ([.one (.l ([]:Rw))],[[.i .i64 n1,.i .i64 n2,.i .i64 n3,.i .i64 n4,.i .i64 n5,.i .i64 n6,.i .i64 n7,.i .i64 n8,.l l1,.i .i64 n9,.l l2,.l l3,.l l4]])
    else
     chk (decide (0≤n11)&&decide (n11 < l4.length)) <|
     chk (decide (1≤1∧(n11.toNat) < l4.length)) <|
     chk (decide (0≤n11)&&decide (n11 < l3.length)) <|
     chk (decide (1≤1∧(n11.toNat) < l3.length)) <|
     let y5:=t58 n1 n2 n3 n4 n5 n6 n7 n8 l1 n9 l2 (stR l3 (n11.toNat) 0 [.i .i64 (w64 (y4+(1:Int)))]) (stR l4 (n11.toNat) 0 [.i .i64 y4])
     chk (okR zr58 zo58 y5) <|
     let y6:=asL (outC y5 0 11)
     chk (decide (0≤n11)&&decide (n11 < y6.length)) <|
     let y7:=y6.getD (n11.toNat) []
     chk (decide (1≤y7.length)&&isF z3 0 y7) <|
     let y8:=asI (outC y5 0 0)
     let y9:=asI (outC y5 0 1)
     let y10:=asI (outC y5 0 2)
     let y11:=asI (outC y5 0 3)
     let y12:=asI (outC y5 0 4)
     let y13:=asI (outC y5 0 5)
     let y14:=asI (outC y5 0 6)
     let y15:=asI (outC y5 0 7)
     let y16:=asL (outC y5 0 8)
     let y17:=asI (outC y5 0 9)
     let y18:=asL (outC y5 0 10)
     let y19:=asL (outC y5 0 12)
     let y20:=t43 y8 y9 y10 y11 y12 y13 y14 y15 y16 y17 y18 y6 y19
     chk (okR zr43 zo43 y20) <|
     if decide ((asI (nthD y7 0))≤(asI (resC y20 0 0))) then
      let y21:=t74 y8 y9 y10 y11 y12 y13 y14 y15 y16 y17 y18 y6 y19 n11
      chk (okR zr74 zo74 y21) <|
      some ([.one (.l ([[.i .i64 (asI (resC y21 0 0)),.i .i64 (asI (resC y21 0 1)),.i .i64 (asI (resC y21 0 2)),.i .i64 (asI (resC y21 0 3)),.i .i64 (asI (resC y21 0 4)),.i .i64 (asI (resC y21 0 5)),.i .i64 (asI (resC y21 0 6)),.b (asB (resC y21 0 7)),.l (asL (resC y21 0 8)),.s (asS (resC y21 0 9))]]:Rw))],[[.i .i64 y8,.i .i64 y9,.i .i64 y10,.i .i64 y11,.i .i64 y12,.i .i64 y13,.i .i64 y14,.i .i64 y15,.l y16,.i .i64 y17,.l y18,.l y6,.l y19]])
     else
      some ([.one (.l ([]:Rw))],[[.i .i64 y8,.i .i64 y9,.i .i64 y10,.i .i64 y11,.i .i64 y12,.i .i64 y13,.i .i64 y14,.i .i64 y15,.l y16,.i .i64 y17,.l y18,.l y6,.l y19]])
   else
    chk (decide (0≤n11)&&decide (n11 < l3.length)) <|
    let y22:=l3.getD (n11.toNat) []
    chk (decide (1≤y22.length)&&isF z3 0 y22) <|
    chk (decide (0≤n11)&&decide (n11 < l4.length)) <|
    let y23:=l4.getD (n11.toNat) []
    chk (decide (1≤y23.length)&&isF z3 0 y23) <|
    chk (decide (0≤n11)&&decide (n11 < l3.length)) <|
    let y24:=l3.getD (n11.toNat) []
    chk (decide (1≤y24.length)&&isF z3 0 y24) <|
    let y25:=w64 ((asI (nthD y23 0))+(1:Int))
    let y26:=w64 (n14+(1:Int))
    let y27:=w64 ((asI (nthD y22 0)) - (1:Int))
    let y28:=if y26 < y27 then y26 else y27
    let y29:=if y25 > y28 then y25 else y28
    if decide (y29 ≥ (asI (nthD y24 0))) then
     some ([.one (.l ([]:Rw))],[[.i .i64 n1,.i .i64 n2,.i .i64 n3,.i .i64 n4,.i .i64 n5,.i .i64 n6,.i .i64 n7,.i .i64 n8,.l l1,.i .i64 n9,.l l2,.l l3,.l l4]])
    else
     chk (decide (0≤n11)&&decide (n11 < l3.length)) <|
     chk (decide (1≤1∧(n11.toNat) < l3.length)) <|
     let y30:=stR l3 (n11.toNat) 0 [.i .i64 y29]
     let y31:=t74 n1 n2 n3 n4 n5 n6 n7 n8 l1 n9 l2 y30 l4 n11
     chk (okR zr74 zo74 y31) <|
     some ([.one (.l ([[.i .i64 (asI (resC y31 0 0)),.i .i64 (asI (resC y31 0 1)),.i .i64 (asI (resC y31 0 2)),.i .i64 (asI (resC y31 0 3)),.i .i64 (asI (resC y31 0 4)),.i .i64 (asI (resC y31 0 5)),.i .i64 (asI (resC y31 0 6)),.b (asB (resC y31 0 7)),.l (asL (resC y31 0 8)),.s (asS (resC y31 0 9))]]:Rw))],[[.i .i64 n1,.i .i64 n2,.i .i64 n3,.i .i64 n4,.i .i64 n5,.i .i64 n6,.i .i64 n7,.i .i64 n8,.l l1,.i .i64 n9,.l l2,.l y30,.l l4]])
def t53:Y53:=ta53 t43 t58 t74
def zr53:List DV:=[.one (.l [])]
def zo53:Rw:=[[.i .i64 0,.i .i64 0,.i .i64 0,.i .i64 0,.i .i64 0,.i .i64 0,.i .i64 0,.i .i64 0,.l [],.i .i64 0,.l [],.l [],.l []]]
def A53:List TA:=[.ptr [.i .i64,.i .i64,.i .i64,.i .i64,.i .i64,.i .i64,.i .i64,.i .i64,.l,.i .i64,.l,.l,.l],.agg [.i .i64,.i .i64,.i .i64,.i .i64,.i .i64,.i .i64,.i .i64,.b,.l,.s]]
abbrev Y54:=Int→Int→Int→Int→Int→Int→Int→Int→Rw→Int→Rw→Rw→Rw→Int→Int→Int→Int→Int→Int→Int→Bool→Rw→ByteArray→Rs
def t54 (n1 n2 n3 n4 n5 n6 n7 n8:Int) (l1:Rw) (n9:Int) (l2 l3 l4:Rw) (n10 n11 n12 n13 n14 n15 n16:Int) (b1:Bool) (l5:Rw) (s1:ByteArray):Rs :=
  none
def zr54:List DV:=[.one (.l [])]
def zo54:Rw:=[]
def A54:List TA:=[.ptr [.i .i64,.i .i64,.i .i64,.i .i64,.i .i64,.i .i64,.i .i64,.i .i64,.l,.i .i64,.l,.l,.l],.agg [.i .i64,.i .i64,.i .i64,.i .i64,.i .i64,.i .i64,.i .i64,.b,.l,.s]]
abbrev Y27:=Int→Int→Int→Int→Int→Int→Int→Int→Rw→Int→Rw→Rw→Rw→Int→Int→Int→Int→Int→Int→Int→Bool→Rw→ByteArray→Rs
def ta27 (t47:Y47) (t48:Y48) (t49:Y49) (t50:Y50) (t51:Y51) (t52:Y52) (t53:Y53) (t54:Y54) (n1 n2 n3 n4 n5 n6 n7 n8:Int) (l1:Rw) (n9:Int) (l2 l3 l4:Rw) (n10 n11 n12 n13 n14 n15 n16:Int) (b1:Bool) (l5:Rw) (s1:ByteArray):Rs :=
  let y1:=t47 n10 n11 n12 n13 n14 n15 n16 b1 l5 s1
  chk (okR zr47 zo47 y1) <|
  if ((!(asB (resC y1 0 0)))||(n12 != n1))||(decide (n11 ≥ n2)) then
   some ([.one (.l ([]:Rw))],[[.i .i64 n1,.i .i64 n2,.i .i64 n3,.i .i64 n4,.i .i64 n5,.i .i64 n6,.i .i64 n7,.i .i64 n8,.l l1,.i .i64 n9,.l l2,.l l3,.l l4]])
  else
   if decide (n13 < n3) then
    if n10==(1:Int) then
     some ([.one (.l ([[.i .i64 (2:Int),.i .i64 n1,.i .i64 n11,.i .i64 n3,.i .i64 (0:Int),.i .i64 (0:Int),.i .i64 (0:Int),.b false,.l ([]:Rw),.s (⟨#[]⟩:ByteArray)]]:Rw))],[[.i .i64 n1,.i .i64 n2,.i .i64 n3,.i .i64 n4,.i .i64 n5,.i .i64 n6,.i .i64 n7,.i .i64 n8,.l l1,.i .i64 n9,.l l2,.l l3,.l l4]])
    else
     let k1:=fun (b2:Bool) =>
      if b2 then
       let y2:=t48 n1 n2 n3 n4 n5 n6 n7 n8 l1 n9 l2 l3 l4 n10 n11 n12 n13 n14 n15 n16 b1 l5 s1 false (0:Int)
       chk (okR zr48 zo48 y2) <|
       some ([.one (.l (asL (resC y2 0 0)))],[[.i .i64 n1,.i .i64 n2,.i .i64 n3,.i .i64 n4,.i .i64 n5,.i .i64 n6,.i .i64 n7,.i .i64 n8,.l l1,.i .i64 n9,.l l2,.l l3,.l l4]])
      else
       some ([.one (.l ([]:Rw))],[[.i .i64 n1,.i .i64 n2,.i .i64 n3,.i .i64 n4,.i .i64 n5,.i .i64 n6,.i .i64 n7,.i .i64 n8,.l l1,.i .i64 n9,.l l2,.l l3,.l l4]])
     let y3:=n10==(3:Int)
     if y3 then
      k1 y3
     else
      k1 (n10==(5:Int))
   else
    let k2:=fun (n17 n18 n19 n20 n21 n22 n23 n24 n25:Int) (l6 l7 l8 l9:Rw) =>
     if n10==(1:Int) then
      let y4:=t50 n17 n18 n19 n20 n21 n22 n23 n24 l6 n25 l7 l8 l9 n10 n11 n12 n13 n14 n15 n16 b1 l5 s1
      chk (okR zr50 zo50 y4) <|
      some ([.one (.l (asL (resC y4 0 0)))],[[.i .i64 n17,.i .i64 n18,.i .i64 n19,.i .i64 n20,.i .i64 n21,.i .i64 n22,.i .i64 n23,.i .i64 n24,.l l6,.i .i64 n25,.l l7,.l l8,.l l9]])
     else
      if n10==(2:Int) then
       let y5:=t51 n17 n18 n19 n20 n21 n22 n23 n24 l6 n25 l7 l8 l9 n10 n11 n12 n13 n14 n15 n16 b1 l5 s1
       chk (okR zr51 zo51 y5) <|
       some ([.one (.l (asL (resC y5 0 0)))],[[.i .i64 n17,.i .i64 n18,.i .i64 n19,.i .i64 n20,.i .i64 n21,.i .i64 n22,.i .i64 n23,.i .i64 n24,.l l6,.i .i64 n25,.l l7,.l l8,.l l9]])
      else
       if n10==(3:Int) then
        let y6:=t52 n17 n18 n19 n20 n21 n22 n23 n24 l6 n25 l7 l8 l9 n10 n11 n12 n13 n14 n15 n16 b1 l5 s1
        chk (okR zr52 zo52 y6) <|
        some ([.one (.l (asL (resC y6 0 0)))],[[.i .i64 n17,.i .i64 n18,.i .i64 n19,.i .i64 n20,.i .i64 n21,.i .i64 n22,.i .i64 n23,.i .i64 n24,.l l6,.i .i64 n25,.l l7,.l l8,.l l9]])
       else
        if n10==(4:Int) then
         let y7:=t53 n17 n18 n19 n20 n21 n22 n23 n24 l6 n25 l7 l8 l9 n10 n11 n12 n13 n14 n15 n16 b1 l5 s1
         chk (okR zr53 zo53 y7) <|
         some ([.one (.l (asL (resC y7 0 0)))],[[.i .i64 (asI (outC y7 0 0)),.i .i64 (asI (outC y7 0 1)),.i .i64 (asI (outC y7 0 2)),.i .i64 (asI (outC y7 0 3)),.i .i64 (asI (outC y7 0 4)),.i .i64 (asI (outC y7 0 5)),.i .i64 (asI (outC y7 0 6)),.i .i64 (asI (outC y7 0 7)),.l (asL (outC y7 0 8)),.i .i64 (asI (outC y7 0 9)),.l (asL (outC y7 0 10)),.l (asL (outC y7 0 11)),.l (asL (outC y7 0 12))]])
        else
         let y8:=t54 n17 n18 n19 n20 n21 n22 n23 n24 l6 n25 l7 l8 l9 n10 n11 n12 n13 n14 n15 n16 b1 l5 s1
         chk (okR zr54 zo54 y8) <|
         some ([.one (.l (asL (resC y8 0 0)))],[[.i .i64 n17,.i .i64 n18,.i .i64 n19,.i .i64 n20,.i .i64 n21,.i .i64 n22,.i .i64 n23,.i .i64 n24,.l l6,.i .i64 n25,.l l7,.l l8,.l l9]])
    if decide (n13 > n3) then
     let y9:=t49 n1 n2 n3 n4 n5 n6 n7 n8 l1 n9 l2 l3 l4 n13
     chk (okR zr49 zo49 y9) <|
     k2 (asI (outC y9 0 0)) (asI (outC y9 0 1)) (asI (outC y9 0 2)) (asI (outC y9 0 3)) (asI (outC y9 0 4)) (asI (outC y9 0 5)) (asI (outC y9 0 6)) (asI (outC y9 0 7)) (asI (outC y9 0 9)) (asL (outC y9 0 8)) (asL (outC y9 0 10)) (asL (outC y9 0 11)) (asL (outC y9 0 12))
    else
     k2 n1 n2 n3 n4 n5 n6 n7 n8 n9 l1 l2 l3 l4
def t27:Y27:=ta27 t47 t48 t49 t50 t51 t52 t53 t54
def zr27:List DV:=[.one (.l [])]
def zo27:Rw:=[[.i .i64 0,.i .i64 0,.i .i64 0,.i .i64 0,.i .i64 0,.i .i64 0,.i .i64 0,.i .i64 0,.l [],.i .i64 0,.l [],.l [],.l []]]
def A27:List TA:=[.ptr [.i .i64,.i .i64,.i .i64,.i .i64,.i .i64,.i .i64,.i .i64,.i .i64,.l,.i .i64,.l,.l,.l],.agg [.i .i64,.i .i64,.i .i64,.i .i64,.i .i64,.i .i64,.i .i64,.b,.l,.s]]
abbrev Y9:=Int→Int→Int→Int→Int→Int→Int→Int→Rw→Int→Rw→Rw→Rw→Int→Int→Int→Int→Int→Int→Int→Bool→Rw→ByteArray→Rs
def ta9 (t25:Y25) (t26:Y26) (t27:Y27) (n1 n2 n3 n4 n5 n6 n7 n8:Int) (l1:Rw) (n9:Int) (l2 l3 l4:Rw) (n10 n11 n12 n13 n14 n15 n16:Int) (b1:Bool) (l5:Rw) (s1:ByteArray):Rs :=
  let y1:=t25 n1 n2 n3 n4 n5 n6 n7 n8 l1 n9 l2 l3 l4
  chk (okR zr25 zo25 y1) <|
  if !(asB (resC y1 0 0)) then
   some ([.agg [.i .i64 (0:Int),.i .i64 (0:Int),.i .i64 (0:Int),.i .i64 (0:Int),.i .i64 (0:Int),.i .i64 (0:Int),.i .i64 (0:Int),.i .i64 (0:Int),.l ([]:Rw),.i .i64 (0:Int),.l ([]:Rw),.l ([]:Rw),.l ([]:Rw)],.one (.l ([]:Rw))],[])
  else
   let y2:=t26 n1 n2 n3 n4 n5 n6 n7 n8 l1 n9 l2 l3 l4
   chk (okR zr26 zo26 y2) <|
   let y3:=t27 (asI (resC y2 0 0)) (asI (resC y2 0 1)) (asI (resC y2 0 2)) (asI (resC y2 0 3)) (asI (resC y2 0 4)) (asI (resC y2 0 5)) (asI (resC y2 0 6)) (asI (resC y2 0 7)) (asL (resC y2 0 8)) (asI (resC y2 0 9)) (asL (resC y2 0 10)) (asL (resC y2 0 11)) (asL (resC y2 0 12)) n10 n11 n12 n13 n14 n15 n16 b1 l5 s1
   chk (okR zr27 zo27 y3) <|
   some ([.agg [.i .i64 (asI (outC y3 0 0)),.i .i64 (asI (outC y3 0 1)),.i .i64 (asI (outC y3 0 2)),.i .i64 (asI (outC y3 0 3)),.i .i64 (asI (outC y3 0 4)),.i .i64 (asI (outC y3 0 5)),.i .i64 (asI (outC y3 0 6)),.i .i64 (asI (outC y3 0 7)),.l (asL (outC y3 0 8)),.i .i64 (asI (outC y3 0 9)),.l (asL (outC y3 0 10)),.l (asL (outC y3 0 11)),.l (asL (outC y3 0 12))],.one (.l (asL (resC y3 0 0)))],[])
def t9:Y9:=ta9 t25 t26 t27
def zr9:List DV:=[.agg [.i .i64 0,.i .i64 0,.i .i64 0,.i .i64 0,.i .i64 0,.i .i64 0,.i .i64 0,.i .i64 0,.l [],.i .i64 0,.l [],.l [],.l []],.one (.l [])]
def zo9:Rw:=[]
def A9:List TA:=[.agg [.i .i64,.i .i64,.i .i64,.i .i64,.i .i64,.i .i64,.i .i64,.i .i64,.l,.i .i64,.l,.l,.l],.agg [.i .i64,.i .i64,.i .i64,.i .i64,.i .i64,.i .i64,.i .i64,.b,.l,.s]]
abbrev Y4:=Rw→Rs
def la4o5 (t5:Y5) (t9:Y9) (t10:Y10) (t11:Y11) (t12:Y12) (t13:Y13) (l1:Rw) (b1:Bool) (s1:ByteArray) (n1 n2:Int) (b2 b3 b4 b5 b6:Bool) (n3 n4 n5 n6 n7 n8 n9 n10 n11 n12 n13 n14 n15 n16 n17 n18 n19 n20:Int) (l2 l3 l4 l5 l6 l7 l8 l9 l10 l11:Rw) (q1:Int→Int→Bool→Bool→Bool→Int→Int→Int→Int→Int→Int→Int→Int→Int→Rw→Rw→Rw→Rw→Rs) (q2:Int→Int→Bool→SV→SV→Int→Int→Int→Int→Int→Int→Int→Int→Int→Rw→Rw→Rw→Rw→Rs):Nat→Int→Int→SV→SV→SV→Int→Int→Int→Int→Int→Int→Int→Int→Int→Rw→Rw→Rw→Rw→Rs
  | 0,_,_,_,_,_,_,_,_,_,_,_,_,_,_,_,_,_,_=>none
  | m+1,n21,n22,v1,v2,v3,n23,n24,n25,n26,n27,n28,n29,n30,n31,l12,l13,l14,l15 =>
    let y1:=(decide (n22 < n4))&&(decide ((w64 ((2:Int) * n21))≤n4))
    if y1 then
     if n22==n3 then
      la4o5 t5 t9 t10 t11 t12 t13 l1 b1 s1 n1 n2 b2 b3 b4 b5 b6 n3 n4 n5 n6 n7 n8 n9 n10 n11 n12 n13 n14 n15 n16 n17 n18 n19 n20 l2 l3 l4 l5 l6 l7 l8 l9 l10 l11 q1 q2 m n21 (w64 (n22+(1:Int))) (.d (.b y1)) (.d (.b (n22==n3))) (keepV [192,320,512,1485,1933,12297,12299,12300,12301,20489,20491,20492,20493,32777,32779,32780,32781] v3) n23 n24 n25 n26 n27 n28 n29 n30 n31 l12 l13 l14 l15
     else
      if n31==n1 then
       q1 n21 n22 y1 (n22==n3) (n31==n1) n23 n24 n25 n26 n27 n28 n29 n30 n31 l12 l13 l14 l15
      else
       let y2:=t9 n23 n24 n25 n26 n27 n28 n29 n30 l12 n31 l13 l14 l15 (4:Int) n22 n3 n5 n1 (0:Int) (0:Int) true ([]:Rw) (⟨#[]⟩:ByteArray)
       chk (okR zr9 zo9 y2) <|
       la4o5 t5 t9 t10 t11 t12 t13 l1 b1 s1 n1 n2 b2 b3 b4 b5 b6 n3 n4 n5 n6 n7 n8 n9 n10 n11 n12 n13 n14 n15 n16 n17 n18 n19 n20 l2 l3 l4 l5 l6 l7 l8 l9 l10 l11 q1 q2 m (w64 (n21+(1:Int))) (w64 (n22+(1:Int))) (.d (.b y1)) (.d (.b (n22==n3))) (.d (.b (n31==n1))) (asI (resC y2 0 0)) (asI (resC y2 0 1)) (asI (resC y2 0 2)) (asI (resC y2 0 3)) (asI (resC y2 0 4)) (asI (resC y2 0 5)) (asI (resC y2 0 6)) (asI (resC y2 0 7)) (asI (resC y2 0 9)) (asL (resC y2 0 8)) (asL (resC y2 0 10)) (asL (resC y2 0 11)) (asL (resC y2 0 12))
    else
     q2 n21 n22 y1 (keepV [192,320,512,1485,1933,12297,12299,12300,12301,20489,20491,20492,20493,32777,32779,32780,32781] v2) (keepV [192,320,512,1485,1933,12297,12299,12300,12301,20489,20491,20492,20493,32777,32779,32780,32781] v3) n23 n24 n25 n26 n27 n28 n29 n30 n31 l12 l13 l14 l15
def ta4 (t5:Y5) (t9:Y9) (t10:Y10) (t11:Y11) (t12:Y12) (t13:Y13) (l1:Rw):Rs :=
  chk (okR zr5 zo5 (t5 l1)) <|
  let y1:=asB (resC (t5 l1) 0 0)
  if y1 then
   some ([.one (.b true)],[])
  else
   chk (okR zr10 zo10 (t10 l1)) <|
   let y2:=asI (resC (t10 l1) 0 0)
   let y3:=asI (resC (t10 l1) 0 1)
   let y4:=asI (resC (t10 l1) 0 2)
   let y5:=asI (resC (t10 l1) 0 3)
   let y6:=asI (resC (t10 l1) 0 4)
   let y7:=asI (resC (t10 l1) 0 5)
   let y8:=asI (resC (t10 l1) 0 6)
   let y9:=asI (resC (t10 l1) 0 7)
   let y10:=asL (resC (t10 l1) 0 8)
   let y11:=asI (resC (t10 l1) 0 9)
   let y12:=asL (resC (t10 l1) 0 10)
   let y13:=asL (resC (t10 l1) 0 11)
   let y14:=asL (resC (t10 l1) 0 12)
   let y15:=asS (resC (t10 l1) 1 0)
   let y16:=t11 y2 y3 y4 y5 y6 y7 y8 y9 y10 y11 y12 y13 y14 y15
   chk (okR zr11 zo11 y16) <|
   let y17:=t12 y2 y3 y4 y5 y6 y7 y8 y9 y10 y11 y12 y13 y14 y15
   chk (okR zr12 zo12 y17) <|
   let y18:=asI (resC y16 2 0)
   let y19:=asI (resC y17 2 0)
   let y20:=asL (resC y16 1 0)
   let y21:=asL (resC y17 1 0)
   let y22:=(y18 != y19)||((y20.length:Int) != (y21.length:Int))
   if y22 then
    some ([.one (.b false)],[])
   else
    let y23:=y18==(0:Int)
    if y23 then
     some ([.one (.b ((y20.length:Int)==(0:Int)))],[])
    else
     let y24:=(y10.length:Int)
     let y25:=asL (resC y16 0 8)
     let y26:=(y25.length:Int) != (w64 ((y10.length:Int)+(1:Int)))
     chk ((decide (0≤y24∧y24≤y25.length))||!(!y26)) <|
     let y27:=t13 (y25.take (y24.toNat)) y10
     chk ((okR zr13 zo13 y27)||!(!y26)) <|
     let y28:=(y10.length:Int)
     let y29:=y26||(!(asB (resC y27 0 0)))
     chk ((decide (0≤y28)&&decide (y28 < y25.length))||!(!y29)) <|
     let y30:=y25.getD (y28.toNat) []
     chk ((decide (2≤y30.length)&&isF z9 1 y30)||!(!y29)) <|
     let y31:=(y10.length:Int)
     let y32:=y29||(!((asS (nthD y30 1)).toList==y15.toList))
     chk ((decide (0≤y31)&&decide (y31 < y25.length))||!(!y32)) <|
     let y33:=y25.getD (y31.toNat) []
     chk ((decide (1≤y33.length)&&isF z3 0 y33)||!(!y32)) <|
     let y34:=asI (resC y16 0 6)
     let y35:=(y32||((asI (nthD y33 0)) != y4))||(y18 != (w64 (y34+(y25.length:Int))))
     if y35 then
      some ([.one (.b false)],[])
     else
      let y36:=y3==(1:Int)
      if y36 then
       let y37:=asI (resC y16 0 9)
       some ([.one (.b (y37==y18))],[])
      else
       let y38:=asI (resC y16 0 9)
       la4o5 t5 t9 t10 t11 t12 t13 l1 false y15 y18 y19 y1 y22 y23 y35 y36 y2 y3 y4 y5 y6 y7 y8 y9 y11 (asI (resC y17 0 0)) (asI (resC y17 0 1)) (asI (resC y17 0 2)) (asI (resC y17 0 3)) (asI (resC y17 0 4)) (asI (resC y17 0 5)) (asI (resC y17 0 6)) (asI (resC y17 0 7)) (asI (resC y17 0 9)) y20 y21 y10 y12 y13 y14 (asL (resC y17 0 8)) (asL (resC y17 0 10)) (asL (resC y17 0 11)) (asL (resC y17 0 12))
        (fun (n1 n2:Int) (b1 b2 b3:Bool) (n3 n4 n5 n6 n7 n8 n9 n10 n11:Int) (l2 l3 l4 l5:Rw) =>
         some ([.one (.b false)],[]))
        (fun (n12 n13:Int) (b4:Bool) (v1 v2:SV) (n14 n15 n16 n17 n18 n19 n20 n21 n22:Int) (l6 l7 l8 l9:Rw) =>
         some ([.one (.b (n22==y18))],[])) KK (1:Int) (0:Int) SV.undef SV.undef SV.undef (asI (resC y16 0 0)) (asI (resC y16 0 1)) (asI (resC y16 0 2)) (asI (resC y16 0 3)) (asI (resC y16 0 4)) (asI (resC y16 0 5)) y34 (asI (resC y16 0 7)) y38 y25 (asL (resC y16 0 10)) (asL (resC y16 0 11)) (asL (resC y16 0 12))
def t4:Y4:=ta4 t5 t9 t10 t11 t12 t13
def zr4:List DV:=[.one (.b false)]
def zo4:Rw:=[]
def A4:List TA:=[.one (.l)]
end
end Go.Den.L4
