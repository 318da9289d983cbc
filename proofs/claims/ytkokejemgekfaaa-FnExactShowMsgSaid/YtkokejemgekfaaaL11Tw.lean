/- What the functions come to, as plain Lean. Printed by tw.py. -/
import Derived.Test.YtkokejemgekfaaaDm7
set_option linter.unusedVariables false
namespace Go.Den.L11
open Go
noncomputable section
/-- The rounds that a loop is given: 2 ^ 64; so laid that nothing unfolds it. -/
noncomputable def KK : Nat := Classical.choose (⟨2 ^ 64, rfl⟩ : ∃ n : Nat, n = 2 ^ 64)
def w64 (x : Int) : Int := IntKind.wrap .i64 x
def chk (b : Bool) (x : Rs) : Rs := if b then x else none
def bitAnd (k : IntKind) (a b : Int) : Int := k.wrap (BitVec.ofInt k.bits a &&& BitVec.ofInt k.bits b).toNat
def bitOr (k : IntKind) (a b : Int) : Int := k.wrap (BitVec.ofInt k.bits a ||| BitVec.ofInt k.bits b).toNat
def bitXor (k : IntKind) (a b : Int) : Int := k.wrap (BitVec.ofInt k.bits a ^^^ BitVec.ofInt k.bits b).toNat
def stR (xs : List (List D)) (i off : Nat) (ys : List D) : List (List D) := xs.modify i fun r => r.take off ++ ys ++ r.drop (off + ys.length)
def z3 : List D := [.i .i64 0]
def z119 : List D := [.i .i64 0, .s ⟨#[]⟩]
def z144 : List D := [.i .i64 0, .s ⟨#[]⟩]
/-- laws.szEntry -/
def t113 (n1 : Int) (s2 : ByteArray) (n3 : Int) : Rs :=
  let y1 := w64 (n3 - (s2.size : Int))
  if decide (y1 < 0) then
   some ([.one (.i .i64 (-1))], [])
  else
   some ([.one (.i .i64 y1)], [])
def zr113 : List DV := [.one (.i .i64 0)]
def zo113 : List (List D) := []
def A113 : List TA := [.agg [.i .i64, .s], .one (.i .i64)]
def v113 (vs : List Vr) : Rs := t113 (vI vs 0) (vS vs 1) (vI vs 2)
def g113 (xs : List DV) : Bool × List DV × List (List D) := gOf zr113 zo113 (argsT A113 v113 xs)
def l71o1 (l8 : List (List D)) (n10 : Int) (b12 : Bool) (q1 : Int → Int → Bool → Bool → Rs) (q2 : Int → Int → Bool → SV → Rs) : Nat → Int → Int → SV → SV → Rs
  | 0, _, _, _, _ => none
  | m + 1, n9, n11, v13, v14 =>
    let y1 := decide (n11 < (l8.length : Int))
    if y1 then
     let y2 := l8.getD n11.toNat []
     chk (decide (0 ≤ n11) && decide (n11 < l8.length) && isRow z144 y2) <|
     let y3 := t113 (asI (nthD y2 0)) (asS (nthD y2 1)) n9
     chk (okR zr113 zo113 y3) <|
     let y4 := asI (resC y3 0 0)
     let y5 := decide (y4 < 0)
     if y5 then
      q1 y4 n11 y1 y5
     else
      l71o1 l8 n10 b12 q1 q2 m y4 (w64 (n11 + 1)) (.d (.b y1)) (.d (.b y5))
    else
     q2 n9 n11 y1 (keepV [] v14)
/-- laws.szEntryS -/
def t71 (l1 : List (List D)) (n2 : Int) : Rs :=
  let y1 := w64 (n2 - (l1.length : Int))
  let y2 := decide (y1 < 0)
  if y2 then
   some ([.one (.i .i64 (-1))], [])
  else
   l71o1 l1 0 y2
    (fun (n30 : Int) (n31 : Int) (b32 : Bool) (b33 : Bool) =>
     some ([.one (.i .i64 (-1))], []))
    (fun (n34 : Int) (n35 : Int) (b36 : Bool) (v37 : SV) =>
     some ([.one (.i .i64 n34)], [])) KK y1 0 SV.undef SV.undef
def zr71 : List DV := [.one (.i .i64 0)]
def zo71 : List (List D) := []
def A71 : List TA := [.one (.l), .one (.i .i64)]
def v71 (vs : List Vr) : Rs := t71 (vL vs 0) (vI vs 1)
def g71 (xs : List DV) : Bool × List DV × List (List D) := gOf zr71 zo71 (argsT A71 v71 xs)
/-- laws.szMsg -/
def t36 (n1 : Int) (n2 : Int) (n3 : Int) (n4 : Int) (n5 : Int) (n6 : Int) (n7 : Int) (b8 : Bool) (l9 : List (List D)) (s10 : ByteArray) (n11 : Int) : Rs :=
  chk (okR zr71 zo71 (t71 l9 n11)) <|
  let y1 := asI (resC (t71 l9 n11) 0 0)
  if decide (y1 < 0) then
   some ([.one (.i .i64 (-1))], [])
  else
   let y2 := w64 (y1 - (s10.size : Int))
   if decide (y2 < 0) then
    some ([.one (.i .i64 (-1))], [])
   else
    some ([.one (.i .i64 y2)], [])
def zr36 : List DV := [.one (.i .i64 0)]
def zo36 : List (List D) := []
def A36 : List TA := [.agg [.i .i64, .i .i64, .i .i64, .i .i64, .i .i64, .i .i64, .i .i64, .b, .l, .s], .one (.i .i64)]
def v36 (vs : List Vr) : Rs := t36 (vI vs 0) (vI vs 1) (vI vs 2) (vI vs 3) (vI vs 4) (vI vs 5) (vI vs 6) (vB vs 7) (vL vs 8) (vS vs 9) (vI vs 10)
def g36 (xs : List DV) : Bool × List DV × List (List D) := gOf zr36 zo36 (argsT A36 v36 xs)
/-- laws.toEntry -/
def t115 (n1 : Int) (s2 : ByteArray) : Rs :=
  some ([.agg [.i .i64 n1, .s s2]], [])
def zr115 : List DV := [.agg [.i .i64 0, .s ⟨#[]⟩]]
def zo115 : List (List D) := []
def A115 : List TA := [.agg [.i .i64, .s]]
def v115 (vs : List Vr) : Rs := t115 (vI vs 0) (vS vs 1)
def g115 (xs : List DV) : Bool × List DV × List (List D) := gOf zr115 zo115 (argsT A115 v115 xs)
def l76o0 (l5 : List (List D)) (q1 : Int → Bool → List (List D) → Rs) : Nat → Int → SV → List (List D) → Rs
  | 0, _, _, _ => none
  | m + 1, n6, v7, l8 =>
    let y1 := decide (n6 < (l5.length : Int))
    if y1 then
     let y2 := l5.getD n6.toNat []
     chk (decide (0 ≤ n6) && decide (n6 < l5.length) && isRow z144 y2) <|
     let y3 := t115 (asI (nthD y2 0)) (asS (nthD y2 1))
     chk (okR zr115 zo115 y3) <|
     chk (decide (0 ≤ n6) && decide (n6 < l8.length)) <|
     chk (decide (2 ≤ 2 ∧ (n6.toNat) < l8.length)) <|
     l76o0 l5 q1 m (w64 (n6 + 1)) (.d (.b y1)) (stR l8 (n6.toNat) 0 [.i .i64 (asI (resC y3 0 0)), .s (asS (resC y3 0 1))])
    else
     q1 n6 y1 l8
/-- laws.toEntryS -/
def t76 (l1 : List (List D)) : Rs :=
  let y1 := (l1.length : Int)
  chk (decide (0 ≤ y1 ∧ y1 ≤ lim ∧ y1 = y1)) <|
  l76o0 l1
   (fun (n16 : Int) (b17 : Bool) (l18 : List (List D)) =>
    some ([.one (.l l18)], [])) KK 0 SV.undef (List.replicate y1.toNat z119)
def zr76 : List DV := [.one (.l [])]
def zo76 : List (List D) := []
def A76 : List TA := [.one (.l)]
def v76 (vs : List Vr) : Rs := t76 (vL vs 0)
def g76 (xs : List DV) : Bool × List DV × List (List D) := gOf zr76 zo76 (argsT A76 v76 xs)
/-- laws.toMsg -/
def t38 (n1 : Int) (n2 : Int) (n3 : Int) (n4 : Int) (n5 : Int) (n6 : Int) (n7 : Int) (b8 : Bool) (l9 : List (List D)) (s10 : ByteArray) : Rs :=
  chk (okR zr76 zo76 (t76 l9)) <|
  some ([.agg [.i .i64 n1, .i .i64 n2, .i .i64 n3, .i .i64 n4, .i .i64 n5, .i .i64 n6, .i .i64 n7, .b b8, .l (asL (resC (t76 l9) 0 0)), .s s10]], [])
def zr38 : List DV := [.agg [.i .i64 0, .i .i64 0, .i .i64 0, .i .i64 0, .i .i64 0, .i .i64 0, .i .i64 0, .b false, .l [], .s ⟨#[]⟩]]
def zo38 : List (List D) := []
def A38 : List TA := [.agg [.i .i64, .i .i64, .i .i64, .i .i64, .i .i64, .i .i64, .i .i64, .b, .l, .s]]
def v38 (vs : List Vr) : Rs := t38 (vI vs 0) (vI vs 1) (vI vs 2) (vI vs 3) (vI vs 4) (vI vs 5) (vI vs 6) (vB vs 7) (vL vs 8) (vS vs 9)
def g38 (xs : List DV) : Bool × List DV × List (List D) := gOf zr38 zo38 (argsT A38 v38 xs)
/-- spec.l1In -/
def t60 (n1 : Int) (n2 : Int) (n3 : Int) : Rs :=
  some ([.one (.b ((decide (n1 ≥ n2)) && (decide (n1 ≤ n3))))], [])
def zr60 : List DV := [.one (.b false)]
def zo60 : List (List D) := []
def A60 : List TA := [.one (.i .i64), .one (.i .i64), .one (.i .i64)]
def v60 (vs : List Vr) : Rs := t60 (vI vs 0) (vI vs 1) (vI vs 2)
def g60 (xs : List DV) : Bool × List DV × List (List D) := gOf zr60 zo60 (argsT A60 v60 xs)
/-- spec.l12Server -/
def t72 (n1 : Int) : Rs :=
  chk (okR zr60 zo60 (t60 n1 0 4)) <|
  some ([.one (.b (asB (resC (t60 n1 0 4) 0 0)))], [])
def zr72 : List DV := [.one (.b false)]
def zo72 : List (List D) := []
def A72 : List TA := [.one (.i .i64)]
def v72 (vs : List Vr) : Rs := t72 (vI vs 0)
def g72 (xs : List DV) : Bool × List DV × List (List D) := gOf zr72 zo72 (argsT A72 v72 xs)
/-- spec.l3Place -/
def t73 (n1 : Int) (n2 : Int) : Rs :=
  if n1 == 0 then
   some ([.one (.b (n2 == 0))], [])
  else
   let y1 := t60 n1 1 100000
   chk (okR zr60 zo60 y1) <|
   let y2 := t60 n2 1 100000
   let y3 := asB (resC y1 0 0)
   chk ((okR zr60 zo60 y2) || !y3) <|
   some ([.one (.b (y3 && (asB (resC y2 0 0))))], [])
def zr73 : List DV := [.one (.b false)]
def zo73 : List (List D) := []
def A73 : List TA := [.one (.i .i64), .one (.i .i64)]
def v73 (vs : List Vr) : Rs := t73 (vI vs 0) (vI vs 1)
def g73 (xs : List DV) : Bool × List DV × List (List D) := gOf zr73 zo73 (argsT A73 v73 xs)
def l74o1 (l11 : List (List D)) (n13 : Int) (b14 : Bool) (b16 : Bool) (q1 : Int → Int → Bool → Bool → Rs) (q2 : Int → Int → Bool → SV → Rs) : Nat → Int → Int → SV → SV → Rs
  | 0, _, _, _, _ => none
  | m + 1, n12, n15, v17, v18 =>
    let y1 := decide (n15 < (l11.length : Int))
    if y1 then
     let y2 := l11.getD n15.toNat []
     chk (decide (0 ≤ n15) && decide (n15 < l11.length) && isRow z119 y2) <|
     let y3 := t60 (asI (nthD y2 0)) n12 n13
     chk (okR zr60 zo60 y3) <|
     let y4 := l11.getD n15.toNat []
     let y5 := !(asB (resC y3 0 0))
     chk ((decide (0 ≤ n15) && decide (n15 < l11.length) && isRow z119 y4) || !(!y5)) <|
     let y6 := y5 || (decide (((asS (nthD y4 1)).size : Int) > 1600))
     if y6 then
      q1 n12 n15 y1 y6
     else
      let y7 := l11.getD n15.toNat []
      chk (decide (0 ≤ n15) && decide (n15 < l11.length) && isRow z119 y7) <|
      l74o1 l11 n13 b14 b16 q1 q2 m (asI (nthD y7 0)) (w64 (n15 + 1)) (.d (.b y1)) (.d (.b y6))
    else
     q2 n12 n15 y1 (keepV [] v18)
/-- spec.l12Run -/
def t74 (l1 : List (List D)) (n2 : Int) (n3 : Int) : Rs :=
  let k1 := fun (n4 : Int) =>
   let y1 := decide (n2 < 1)
   l74o1 l1 n3 false y1
    (fun (n35 : Int) (n36 : Int) (b37 : Bool) (b38 : Bool) =>
     some ([.one (.b false)], []))
    (fun (n39 : Int) (n40 : Int) (b41 : Bool) (v42 : SV) =>
     some ([.one (.b true)], [])) KK n4 0 SV.undef SV.undef
  let y2 := decide (n2 < 1)
  if y2 then
   k1 1
  else
   k1 n2
def zr74 : List DV := [.one (.b false)]
def zo74 : List (List D) := []
def A74 : List TA := [.one (.l), .one (.i .i64), .one (.i .i64)]
def v74 (vs : List Vr) : Rs := t74 (vL vs 0) (vI vs 1) (vI vs 2)
def g74 (xs : List DV) : Bool × List DV × List (List D) := gOf zr74 zo74 (argsT A74 v74 xs)
def l114o1 (l8 : List (List D)) (l9 : List (List D)) (b10 : Bool) (b12 : Bool) (q1 : Int → Bool → Bool → Rs) (q2 : Int → Bool → SV → Rs) : Nat → Int → SV → SV → Rs
  | 0, _, _, _ => none
  | m + 1, n11, v13, v14 =>
    let y1 := decide (n11 < (l8.length : Int))
    if y1 then
     let y2 := l8.getD n11.toNat []
     chk (decide (0 ≤ n11) && decide (n11 < l8.length) && isRow z119 y2) <|
     let y3 := l9.getD n11.toNat []
     chk (decide (0 ≤ n11) && decide (n11 < l9.length) && isRow z119 y3) <|
     let y4 := !(((asI (nthD y2 0)) == (asI (nthD y3 0))) && (((asS (nthD y2 1)).toList == (asS (nthD y3 1)).toList) && true))
     if y4 then
      q1 n11 y1 y4
     else
      l114o1 l8 l9 b10 b12 q1 q2 m (w64 (n11 + 1)) (.d (.b y1)) (.d (.b y4))
    else
     q2 n11 y1 (keepV [] v14)
/-- spec.l12SameEntries -/
def t114 (l1 : List (List D)) (l2 : List (List D)) : Rs :=
  let y1 := (l1.length : Int) != (l2.length : Int)
  if y1 then
   some ([.one (.b false)], [])
  else
   l114o1 l1 l2 false y1
    (fun (n28 : Int) (b29 : Bool) (b30 : Bool) =>
     some ([.one (.b false)], []))
    (fun (n31 : Int) (b32 : Bool) (v33 : SV) =>
     some ([.one (.b true)], [])) KK 0 SV.undef SV.undef
def zr114 : List DV := [.one (.b false)]
def zo114 : List (List D) := []
def A114 : List TA := [.one (.l), .one (.l)]
def v114 (vs : List Vr) : Rs := t114 (vL vs 0) (vL vs 1)
def g114 (xs : List DV) : Bool × List DV × List (List D) := gOf zr114 zo114 (argsT A114 v114 xs)
/-- spec.l12Same -/
def t75 (n1 : Int) (n2 : Int) (n3 : Int) (n4 : Int) (n5 : Int) (n6 : Int) (n7 : Int) (b8 : Bool) (l9 : List (List D)) (s10 : ByteArray) (n11 : Int) (n12 : Int) (n13 : Int) (n14 : Int) (n15 : Int) (n16 : Int) (n17 : Int) (b18 : Bool) (l19 : List (List D)) (s20 : ByteArray) : Rs :=
  if ((((((((n1 != n11) || (n2 != n12)) || (n3 != n13)) || (n4 != n14)) || (n5 != n15)) || (n6 != n16)) || (n7 != n17)) || (!(b8 == b18))) || (!(s10.toList == s20.toList)) then
   some ([.one (.b false)], [])
  else
   chk (okR zr114 zo114 (t114 l9 l19)) <|
   some ([.one (.b (asB (resC (t114 l9 l19) 0 0)))], [])
def zr75 : List DV := [.one (.b false)]
def zo75 : List (List D) := []
def A75 : List TA := [.agg [.i .i64, .i .i64, .i .i64, .i .i64, .i .i64, .i .i64, .i .i64, .b, .l, .s], .agg [.i .i64, .i .i64, .i .i64, .i .i64, .i .i64, .i .i64, .i .i64, .b, .l, .s]]
def v75 (vs : List Vr) : Rs := t75 (vI vs 0) (vI vs 1) (vI vs 2) (vI vs 3) (vI vs 4) (vI vs 5) (vI vs 6) (vB vs 7) (vL vs 8) (vS vs 9) (vI vs 10) (vI vs 11) (vI vs 12) (vI vs 13) (vI vs 14) (vI vs 15) (vI vs 16) (vB vs 17) (vL vs 18) (vS vs 19)
def g75 (xs : List DV) : Bool × List DV × List (List D) := gOf zr75 zo75 (argsT A75 v75 xs)
/-- spec.MsgOk -/
def t37 (n1 : Int) (n2 : Int) (n3 : Int) (n4 : Int) (n5 : Int) (n6 : Int) (n7 : Int) (b8 : Bool) (l9 : List (List D)) (s10 : ByteArray) : Rs :=
  chk (okR zr72 zo72 (t72 n2)) <|
  let y1 := asB (resC (t72 n2) 0 0)
  chk ((okR zr72 zo72 (t72 n3)) || !y1) <|
  let y2 := t60 n4 1 100000
  chk (okR zr60 zo60 y2) <|
  let k1 := fun (n11 : Int) =>
   if n1 == 1 then
    let y3 := (y1 && (asB (resC (t72 n3) 0 0))) && (n2 != n3)
    let y4 := asB (resC y2 0 0)
    let y5 := y3 && y4
    chk ((okR zr73 zo73 (t73 n5 n6)) || !y5) <|
    let y6 := t75 n1 n2 n3 n4 n5 n6 n7 b8 l9 s10 n1 n2 n3 n11 n5 n6 0 false ([] : List (List D)) (⟨#[]⟩ : ByteArray)
    let y7 := (y5 && (asB (resC (t73 n5 n6) 0 0))) && (decide (n6 ≤ n4))
    chk ((okR zr75 zo75 y6) || !y7) <|
    some ([.one (.b (y7 && (asB (resC y6 0 0))))], [])
   else
    if n1 == 2 then
     let y8 := t75 n1 n2 n3 n4 n5 n6 n7 b8 l9 s10 n1 n2 n3 n11 0 0 0 b8 ([] : List (List D)) (⟨#[]⟩ : ByteArray)
     let y9 := (y1 && (asB (resC (t72 n3) 0 0))) && (n2 != n3)
     let y10 := asB (resC y2 0 0)
     let y11 := y9 && y10
     chk ((okR zr75 zo75 y8) || !y11) <|
     some ([.one (.b (y11 && (asB (resC y8 0 0))))], [])
    else
     if n1 == 3 then
      let y12 := (y1 && (asB (resC (t72 n3) 0 0))) && (n2 != n3)
      let y13 := asB (resC y2 0 0)
      let y14 := y12 && y13
      chk ((okR zr73 zo73 (t73 n5 n6)) || !y14) <|
      let y15 := t60 n7 0 100000
      let y16 := (y14 && (asB (resC (t73 n5 n6) 0 0))) && (decide (n6 ≤ n4))
      chk ((okR zr60 zo60 y15) || !y16) <|
      let y17 := t74 l9 n6 n4
      let y18 := (y16 && (asB (resC y15 0 0))) && (decide ((l9.length : Int) ≤ 4))
      chk ((okR zr74 zo74 y17) || !y18) <|
      let y19 := t75 n1 n2 n3 n4 n5 n6 n7 b8 l9 s10 n1 n2 n3 n11 n5 n6 n7 false l9 (⟨#[]⟩ : ByteArray)
      let y20 := (y18 && (asB (resC y17 0 0))) && (decide ((w64 (n5 + (l9.length : Int))) ≤ 100000))
      chk ((okR zr75 zo75 y19) || !y20) <|
      some ([.one (.b (y20 && (asB (resC y19 0 0))))], [])
     else
      if n1 == 4 then
       let y21 := t60 n5 0 100000
       let y22 := (y1 && (asB (resC (t72 n3) 0 0))) && (n2 != n3)
       let y23 := asB (resC y2 0 0)
       let y24 := y22 && y23
       chk ((okR zr60 zo60 y21) || !y24) <|
       let y25 := t75 n1 n2 n3 n4 n5 n6 n7 b8 l9 s10 n1 n2 n3 n11 n5 0 0 b8 ([] : List (List D)) (⟨#[]⟩ : ByteArray)
       let y26 := y24 && (asB (resC y21 0 0))
       chk ((okR zr75 zo75 y25) || !y26) <|
       some ([.one (.b (y26 && (asB (resC y25 0 0))))], [])
      else
       let k2 := fun (b12 : Bool) (n13 : Int) (s14 : ByteArray) =>
        let y27 := t75 n1 n2 n3 n4 n5 n6 n7 b8 l9 s10 n1 n2 n3 n11 n5 n13 0 false ([] : List (List D)) s14
        chk ((okR zr75 zo75 y27) || !b12) <|
        some ([.one (.b (b12 && (asB (resC y27 0 0))))], [])
       if n1 == 5 then
        let y28 := t60 n5 1 100000
        let y29 := (y1 && (asB (resC (t72 n3) 0 0))) && (n2 != n3)
        let y30 := asB (resC y2 0 0)
        let y31 := y29 && y30
        chk ((okR zr60 zo60 y28) || !y31) <|
        let y32 := t60 n6 1 n4
        let y33 := y31 && (asB (resC y28 0 0))
        chk ((okR zr60 zo60 y32) || !y33) <|
        k2 ((y33 && (asB (resC y32 0 0))) && (decide ((s10.size : Int) ≤ 20000))) n6 s10
       else
        k2 false 0 (⟨#[]⟩ : ByteArray)
  let y34 := (y1 && (asB (resC (t72 n3) 0 0))) && (n2 != n3)
  if y34 then
   k1 n4
  else
   k1 0
def zr37 : List DV := [.one (.b false)]
def zo37 : List (List D) := []
def A37 : List TA := [.agg [.i .i64, .i .i64, .i .i64, .i .i64, .i .i64, .i .i64, .i .i64, .b, .l, .s]]
def v37 (vs : List Vr) : Rs := t37 (vI vs 0) (vI vs 1) (vI vs 2) (vI vs 3) (vI vs 4) (vI vs 5) (vI vs 6) (vB vs 7) (vL vs 8) (vS vs 9)
def g37 (xs : List DV) : Bool × List DV × List (List D) := gOf zr37 zo37 (argsT A37 v37 xs)
def l89o1 (s7 : ByteArray) (b8 : Bool) (q1 : Int → Bool → List (List D) → Rs) : Nat → Int → SV → List (List D) → Rs
  | 0, _, _, _ => none
  | m + 1, n6, v9, l10 =>
    let y1 := decide (n6 ≥ 128)
    if y1 then
     let y2 := ([[.i .u8 (IntKind.wrap .u8 (w64 (128 + (n6.tmod 128))))]] : List (List D))
     chk ((flatR 1 y2) && decide (l10.length + y2.length ≤ lim)) <|
     l89o1 s7 b8 q1 m (w64 (n6.tdiv 128)) (.d (.b y1)) (l10 ++ y2)
    else
     q1 n6 y1 l10
/-- spec.Var -/
def t89 (n1 : Int) : Rs :=
  let y1 := t60 n1 0 562949953421311
  chk (okR zr60 zo60 y1) <|
  let y2 := !(asB (resC y1 0 0))
  if y2 then
   some ([.one (.s (⟨#[]⟩ : ByteArray))], [])
  else
   l89o1 (⟨#[]⟩ : ByteArray) y2
    (fun (n19 : Int) (b20 : Bool) (l21 : List (List D)) =>
     let y3 := ([[.i .u8 (IntKind.wrap .u8 n19)]] : List (List D))
     chk ((flatR 1 y3) && decide (l21.length + y3.length ≤ lim)) <|
     let y4 := l21 ++ y3
     chk (isBytes y4) <|
     some ([.one (.s ⟨(bytesD y4).toArray⟩)], [])) KK n1 SV.undef ([] : List (List D))
def zr89 : List DV := [.one (.s ⟨#[]⟩)]
def zo89 : List (List D) := []
def A89 : List TA := [.one (.i .i64)]
def v89 (vs : List Vr) : Rs := t89 (vI vs 0)
def g89 (xs : List DV) : Bool × List DV × List (List D) := gOf zr89 zo89 (argsT A89 v89 xs)
/-- spec.l12Yes -/
def t90 (b1 : Bool) : Rs :=
  if b1 then
   some ([.one (.i .i64 1)], [])
  else
   some ([.one (.i .i64 0)], [])
def zr90 : List DV := [.one (.i .i64 0)]
def zo90 : List (List D) := []
def A90 : List TA := [.one (.b)]
def v90 (vs : List Vr) : Rs := t90 (vB vs 0)
def g90 (xs : List DV) : Bool × List DV × List (List D) := gOf zr90 zo90 (argsT A90 v90 xs)
def l48o1 (n35 : Int) (n36 : Int) (n37 : Int) (n38 : Int) (n39 : Int) (n40 : Int) (n41 : Int) (b42 : Bool) (l43 : List (List D)) (s44 : ByteArray) (s45 : ByteArray) (b48 : Bool) (n50 : Int) (n51 : Int) (n52 : Int) (n53 : Int) (n54 : Int) (n55 : Int) (n56 : Int) (b57 : Bool) (l58 : List (List D)) (s59 : ByteArray) (q1 : ByteArray → Int → Bool → Rs) : Nat → ByteArray → Int → SV → Rs
  | 0, _, _, _ => none
  | m + 1, s46, n47, v49 =>
    let y1 := decide (n47 < (l58.length : Int))
    if y1 then
     let y2 := l58.getD n47.toNat []
     chk (decide (0 ≤ n47) && decide (n47 < l58.length) && isRow z119 y2) <|
     let y3 := t89 (asI (nthD y2 0))
     chk (okR zr89 zo89 y3) <|
     let y4 := asS (resC y3 0 0)
     chk (decide (s46.size + y4.size ≤ lim)) <|
     let y5 := l58.getD n47.toNat []
     chk (decide (0 ≤ n47) && decide (n47 < l58.length) && isRow z119 y5) <|
     let y6 := t89 ((asS (nthD y5 1)).size : Int)
     chk (okR zr89 zo89 y6) <|
     let y7 := s46 ++ y4
     let y8 := asS (resC y6 0 0)
     chk (decide (y7.size + y8.size ≤ lim)) <|
     let y9 := l58.getD n47.toNat []
     chk (decide (0 ≤ n47) && decide (n47 < l58.length) && isRow z119 y9) <|
     let y10 := y7 ++ y8
     let y11 := asS (nthD y9 1)
     chk (decide (y10.size + y11.size ≤ lim)) <|
     l48o1 n35 n36 n37 n38 n39 n40 n41 b42 l43 s44 s45 b48 n50 n51 n52 n53 n54 n55 n56 b57 l58 s59 q1 m (y10 ++ y11) (w64 (n47 + 1)) (.d (.b y1))
    else
     q1 s46 n47 y1
/-- spec.ShowMsg -/
def t48 (n1 : Int) (n2 : Int) (n3 : Int) (n4 : Int) (n5 : Int) (n6 : Int) (n7 : Int) (b8 : Bool) (l9 : List (List D)) (s10 : ByteArray) : Rs :=
  let y1 := t37 n1 n2 n3 n4 n5 n6 n7 b8 l9 s10
  chk (okR zr37 zo37 y1) <|
  let y2 := !(asB (resC y1 0 0))
  if y2 then
   some ([.one (.s (⟨#[]⟩ : ByteArray))], [])
  else
   chk (okR zr89 zo89 (t89 n1)) <|
   chk (okR zr89 zo89 (t89 n2)) <|
   let y3 := asS (resC (t89 n1) 0 0)
   let y4 := asS (resC (t89 n2) 0 0)
   chk (decide (y3.size + y4.size ≤ lim)) <|
   chk (okR zr89 zo89 (t89 n3)) <|
   let y5 := y3 ++ y4
   let y6 := asS (resC (t89 n3) 0 0)
   chk (decide (y5.size + y6.size ≤ lim)) <|
   chk (okR zr89 zo89 (t89 n4)) <|
   let y7 := y5 ++ y6
   let y8 := asS (resC (t89 n4) 0 0)
   chk (decide (y7.size + y8.size ≤ lim)) <|
   chk (okR zr89 zo89 (t89 n5)) <|
   let y9 := y7 ++ y8
   let y10 := asS (resC (t89 n5) 0 0)
   chk (decide (y9.size + y10.size ≤ lim)) <|
   chk (okR zr89 zo89 (t89 n6)) <|
   let y11 := y9 ++ y10
   let y12 := asS (resC (t89 n6) 0 0)
   chk (decide (y11.size + y12.size ≤ lim)) <|
   chk (okR zr89 zo89 (t89 n7)) <|
   let y13 := y11 ++ y12
   let y14 := asS (resC (t89 n7) 0 0)
   chk (decide (y13.size + y14.size ≤ lim)) <|
   chk (okR zr90 zo90 (t90 b8)) <|
   let y15 := t89 (asI (resC (t90 b8) 0 0))
   chk (okR zr89 zo89 y15) <|
   let y16 := y13 ++ y14
   let y17 := asS (resC y15 0 0)
   chk (decide (y16.size + y17.size ≤ lim)) <|
   let y18 := t89 (l9.length : Int)
   chk (okR zr89 zo89 y18) <|
   let y19 := y16 ++ y17
   let y20 := asS (resC y18 0 0)
   chk (decide (y19.size + y20.size ≤ lim)) <|
   l48o1 n1 n2 n3 n4 n5 n6 n7 b8 l9 s10 (⟨#[]⟩ : ByteArray) y2 n1 n2 n3 n4 n5 n6 n7 b8 l9 s10
    (fun (s88 : ByteArray) (n89 : Int) (b90 : Bool) =>
     chk (decide (s88.size + s10.size ≤ lim)) <|
     chk (decide ((⟨#[109]⟩ : ByteArray).size + (s88 ++ s10).size ≤ lim)) <|
     some ([.one (.s ((⟨#[109]⟩ : ByteArray) ++ (s88 ++ s10)))], [])) KK (y19 ++ y20) 0 SV.undef
def zr48 : List DV := [.one (.s ⟨#[]⟩)]
def zo48 : List (List D) := []
def A48 : List TA := [.agg [.i .i64, .i .i64, .i .i64, .i .i64, .i .i64, .i .i64, .i .i64, .b, .l, .s]]
def v48 (vs : List Vr) : Rs := t48 (vI vs 0) (vI vs 1) (vI vs 2) (vI vs 3) (vI vs 4) (vI vs 5) (vI vs 6) (vB vs 7) (vL vs 8) (vS vs 9)
def g48 (xs : List DV) : Bool × List DV × List (List D) := gOf zr48 zo48 (argsT A48 v48 xs)
/-- impl.within -/
def t62 (n1 : Int) (n2 : Int) (n3 : Int) : Rs :=
  some ([.one (.b ((decide (n1 ≥ n2)) && (decide (n1 ≤ n3))))], [])
def zr62 : List DV := [.one (.b false)]
def zo62 : List (List D) := []
def A62 : List TA := [.one (.i .i64), .one (.i .i64), .one (.i .i64)]
def v62 (vs : List Vr) : Rs := t62 (vI vs 0) (vI vs 1) (vI vs 2)
def g62 (xs : List DV) : Bool × List DV × List (List D) := gOf zr62 zo62 (argsT A62 v62 xs)
/-- impl.isPlace -/
def t77 (n1 : Int) (n2 : Int) : Rs :=
  let y1 := t62 n1 1 100000
  let y2 := (n1 == 0) && (n2 == 0)
  chk ((okR zr62 zo62 y1) || !(!y2)) <|
  let y3 := t62 n2 1 100000
  let y4 := asB (resC y1 0 0)
  chk ((okR zr62 zo62 y3) || !((!y2) && y4)) <|
  some ([.one (.b (y2 || (y4 && (asB (resC y3 0 0)))))], [])
def zr77 : List DV := [.one (.b false)]
def zo77 : List (List D) := []
def A77 : List TA := [.one (.i .i64), .one (.i .i64)]
def v77 (vs : List Vr) : Rs := t77 (vI vs 0) (vI vs 1)
def g77 (xs : List DV) : Bool × List DV × List (List D) := gOf zr77 zo77 (argsT A77 v77 xs)
def l78o0 (n26 : Int) (n27 : Int) (n28 : Int) (n29 : Int) (n30 : Int) (n31 : Int) (n32 : Int) (b33 : Bool) (l34 : List (List D)) (s35 : ByteArray) (b36 : Bool) (l38 : List (List D)) (n39 : Int) (q1 : Int → Int → Bool → Bool → Int → ByteArray → Rs) (q2 : Int → Int → Bool → SV → Rs) : Nat → Int → Int → SV → SV → Rs
  | 0, _, _, _, _ => none
  | m + 1, n37, n40, v41, v42 =>
    let y1 := decide (n40 < n39)
    if y1 then
     let y2 := l38.getD n40.toNat []
     chk (decide (0 ≤ n40) && decide (n40 < l38.length) && isRow z119 y2) <|
     let y3 := asI (nthD y2 0)
     let y4 := t62 y3 n37 n29
     let y5 := asS (nthD y2 1)
     let y6 := decide ((y5.size : Int) > 1600)
     chk ((okR zr62 zo62 y4) || !(!y6)) <|
     let y7 := y6 || (!(asB (resC y4 0 0)))
     if y7 then
      q1 n37 n40 y1 y7 y3 y5
     else
      l78o0 n26 n27 n28 n29 n30 n31 n32 b33 l34 s35 b36 l38 n39 q1 q2 m y3 (w64 (n40 + 1)) (.d (.b y1)) (.d (.b y7))
    else
     q2 n37 n40 y1 (keepV [] v42)
/-- (*impl.Msg).batchOk -/
def t78 (n1 : Int) (n2 : Int) (n3 : Int) (n4 : Int) (n5 : Int) (n6 : Int) (n7 : Int) (b8 : Bool) (l9 : List (List D)) (s10 : ByteArray) : Rs :=
  l78o0 n1 n2 n3 n4 n5 n6 n7 b8 l9 s10 false l9 (l9.length : Int)
   (fun (n70 : Int) (n71 : Int) (b72 : Bool) (b73 : Bool) (n74 : Int) (s75 : ByteArray) =>
    some ([.one (.b false)], []))
   (fun (n76 : Int) (n77 : Int) (b78 : Bool) (v79 : SV) =>
    some ([.one (.b ((decide ((l9.length : Int) ≤ 4)) && (decide ((w64 (n5 + (l9.length : Int))) ≤ 100000))))], [])) KK (if n6 > 1 then n6 else 1) 0 SV.undef SV.undef
def zr78 : List DV := [.one (.b false)]
def zo78 : List (List D) := []
def A78 : List TA := [.ptr [.i .i64, .i .i64, .i .i64, .i .i64, .i .i64, .i .i64, .i .i64, .b, .l, .s]]
def v78 (vs : List Vr) : Rs := t78 (vI vs 0) (vI vs 1) (vI vs 2) (vI vs 3) (vI vs 4) (vI vs 5) (vI vs 6) (vB vs 7) (vL vs 8) (vS vs 9)
def g78 (xs : List DV) : Bool × List DV × List (List D) := gOf zr78 zo78 (argsT A78 v78 xs)
def l116o1 (l9 : List (List D)) (l10 : List (List D)) (b11 : Bool) (b13 : Bool) (n14 : Int) (q1 : Int → Bool → Bool → Rs) (q2 : SV → Int → Bool → SV → Rs) : Nat → SV → Int → SV → SV → Rs
  | 0, _, _, _, _ => none
  | m + 1, v12, n15, v16, v17 =>
    let y1 := decide (n15 < n14)
    if y1 then
     let y2 := l9.getD n15.toNat []
     chk (decide (0 ≤ n15) && decide (n15 < l9.length) && isRow z119 y2) <|
     let y3 := l10.getD n15.toNat []
     chk (decide (0 ≤ n15) && decide (n15 < l10.length) && isRow z119 y3) <|
     let y4 := !(((asI (nthD y2 0)) == (asI (nthD y3 0))) && (((asS (nthD y2 1)).toList == (asS (nthD y3 1)).toList) && true))
     if y4 then
      q1 n15 y1 y4
     else
      l116o1 l9 l10 b11 b13 n14 q1 q2 m (.d (.i .i64 n15)) (w64 (n15 + 1)) (.d (.b y1)) (.d (.b y4))
    else
     q2 (keepV [] v12) n15 y1 (keepV [] v17)
/-- slices.Equal[[]impl.Entry,impl.Entry] -/
def t116 (l1 : List (List D)) (l2 : List (List D)) : Rs :=
  let y1 := (l1.length : Int) != (l2.length : Int)
  if y1 then
   some ([.one (.b false)], [])
  else
   l116o1 l1 l2 false y1 (l1.length : Int)
    (fun (n34 : Int) (b35 : Bool) (b36 : Bool) =>
     some ([.one (.b false)], []))
    (fun (v37 : SV) (n38 : Int) (b39 : Bool) (v40 : SV) =>
     some ([.one (.b true)], [])) KK SV.undef 0 SV.undef SV.undef
def zr116 : List DV := [.one (.b false)]
def zo116 : List (List D) := []
def A116 : List TA := [.one (.l), .one (.l)]
def v116 (vs : List Vr) : Rs := t116 (vL vs 0) (vL vs 1)
def g116 (xs : List DV) : Bool × List DV × List (List D) := gOf zr116 zo116 (argsT A116 v116 xs)
/-- impl.sameMsg -/
def t79 (n1 : Int) (n2 : Int) (n3 : Int) (n4 : Int) (n5 : Int) (n6 : Int) (n7 : Int) (b8 : Bool) (l9 : List (List D)) (s10 : ByteArray) (n11 : Int) (n12 : Int) (n13 : Int) (n14 : Int) (n15 : Int) (n16 : Int) (n17 : Int) (b18 : Bool) (l19 : List (List D)) (s20 : ByteArray) : Rs :=
  let y1 := (((((((n1 == n11) && (n2 == n12)) && (n3 == n13)) && (n4 == n14)) && (n5 == n15)) && (n6 == n16)) && (n7 == n17)) && (b8 == b18)
  chk ((okR zr116 zo116 (t116 l9 l19)) || !y1) <|
  some ([.one (.b ((y1 && (asB (resC (t116 l9 l19) 0 0))) && (s10.toList == s20.toList)))], [])
def zr79 : List DV := [.one (.b false)]
def zo79 : List (List D) := []
def A79 : List TA := [.agg [.i .i64, .i .i64, .i .i64, .i .i64, .i .i64, .i .i64, .i .i64, .b, .l, .s], .agg [.i .i64, .i .i64, .i .i64, .i .i64, .i .i64, .i .i64, .i .i64, .b, .l, .s]]
def v79 (vs : List Vr) : Rs := t79 (vI vs 0) (vI vs 1) (vI vs 2) (vI vs 3) (vI vs 4) (vI vs 5) (vI vs 6) (vB vs 7) (vL vs 8) (vS vs 9) (vI vs 10) (vI vs 11) (vI vs 12) (vI vs 13) (vI vs 14) (vI vs 15) (vI vs 16) (vB vs 17) (vL vs 18) (vS vs 19)
def g79 (xs : List DV) : Bool × List DV × List (List D) := gOf zr79 zo79 (argsT A79 v79 xs)
/-- impl.MsgOk -/
def t39 (n1 : Int) (n2 : Int) (n3 : Int) (n4 : Int) (n5 : Int) (n6 : Int) (n7 : Int) (b8 : Bool) (l9 : List (List D)) (s10 : ByteArray) : Rs :=
  chk (okR zr62 zo62 (t62 n2 0 4)) <|
  let y1 := asB (resC (t62 n2 0 4) 0 0)
  chk ((okR zr62 zo62 (t62 n3 0 4)) || !y1) <|
  let y2 := t62 n4 1 100000
  let y3 := (y1 && (asB (resC (t62 n3 0 4) 0 0))) && (n2 != n3)
  chk ((okR zr62 zo62 y2) || !y3) <|
  if n1 == 1 then
   let y4 := y3 && (asB (resC y2 0 0))
   chk ((okR zr77 zo77 (t77 n5 n6)) || !y4) <|
   let y5 := t79 n1 n2 n3 n4 n5 n6 n7 b8 l9 s10 n1 n2 n3 n4 n5 n6 0 false ([] : List (List D)) (⟨#[]⟩ : ByteArray)
   let y6 := (y4 && (asB (resC (t77 n5 n6) 0 0))) && (decide (n6 ≤ n4))
   chk ((okR zr79 zo79 y5) || !y6) <|
   some ([.one (.b (y6 && (asB (resC y5 0 0))))], [])
  else
   if n1 == 2 then
    let y7 := t79 n1 n2 n3 n4 n5 n6 n7 b8 l9 s10 n1 n2 n3 n4 0 0 0 b8 ([] : List (List D)) (⟨#[]⟩ : ByteArray)
    let y8 := y3 && (asB (resC y2 0 0))
    chk ((okR zr79 zo79 y7) || !y8) <|
    some ([.one (.b (y8 && (asB (resC y7 0 0))))], [])
   else
    if n1 == 3 then
     let y9 := y3 && (asB (resC y2 0 0))
     chk ((okR zr77 zo77 (t77 n5 n6)) || !y9) <|
     let y10 := t62 n7 0 100000
     let y11 := (y9 && (asB (resC (t77 n5 n6) 0 0))) && (decide (n6 ≤ n4))
     chk ((okR zr62 zo62 y10) || !y11) <|
     let y12 := t78 n1 n2 n3 n4 n5 n6 n7 b8 l9 s10
     let y13 := y11 && (asB (resC y10 0 0))
     chk ((okR zr78 zo78 y12) || !y13) <|
     let y14 := t79 n1 n2 n3 n4 n5 n6 n7 b8 l9 s10 n1 n2 n3 n4 n5 n6 n7 false l9 (⟨#[]⟩ : ByteArray)
     let y15 := y13 && (asB (resC y12 0 0))
     chk ((okR zr79 zo79 y14) || !y15) <|
     some ([.one (.b (y15 && (asB (resC y14 0 0))))], [])
    else
     if n1 == 4 then
      let y16 := t62 n5 0 100000
      let y17 := y3 && (asB (resC y2 0 0))
      chk ((okR zr62 zo62 y16) || !y17) <|
      let y18 := t79 n1 n2 n3 n4 n5 n6 n7 b8 l9 s10 n1 n2 n3 n4 n5 0 0 b8 ([] : List (List D)) (⟨#[]⟩ : ByteArray)
      let y19 := y17 && (asB (resC y16 0 0))
      chk ((okR zr79 zo79 y18) || !y19) <|
      some ([.one (.b (y19 && (asB (resC y18 0 0))))], [])
     else
      if n1 == 5 then
       let y20 := t62 n5 1 100000
       let y21 := y3 && (asB (resC y2 0 0))
       chk ((okR zr62 zo62 y20) || !y21) <|
       let y22 := t62 n6 1 n4
       let y23 := y21 && (asB (resC y20 0 0))
       chk ((okR zr62 zo62 y22) || !y23) <|
       let y24 := t79 n1 n2 n3 n4 n5 n6 n7 b8 l9 s10 n1 n2 n3 n4 n5 n6 0 false ([] : List (List D)) s10
       let y25 := (y23 && (asB (resC y22 0 0))) && (decide ((s10.size : Int) ≤ 20000))
       chk ((okR zr79 zo79 y24) || !y25) <|
       some ([.one (.b (y25 && (asB (resC y24 0 0))))], [])
      else
       some ([.one (.b false)], [])
def zr39 : List DV := [.one (.b false)]
def zo39 : List (List D) := []
def A39 : List TA := [.agg [.i .i64, .i .i64, .i .i64, .i .i64, .i .i64, .i .i64, .i .i64, .b, .l, .s]]
def v39 (vs : List Vr) : Rs := t39 (vI vs 0) (vI vs 1) (vI vs 2) (vI vs 3) (vI vs 4) (vI vs 5) (vI vs 6) (vB vs 7) (vL vs 8) (vS vs 9)
def g39 (xs : List DV) : Bool × List DV × List (List D) := gOf zr39 zo39 (argsT A39 v39 xs)
def l91o1 (s7 : ByteArray) (b8 : Bool) (q1 : Int → Bool → List (List D) → Rs) : Nat → Int → SV → List (List D) → Rs
  | 0, _, _, _ => none
  | m + 1, n6, v9, l10 =>
    let y1 := decide (n6 > 127)
    if y1 then
     let y2 := ([[.i .u8 (IntKind.wrap .u8 (bitOr .i64 (bitAnd .i64 n6 127) 128))]] : List (List D))
     chk ((flatR 1 y2) && decide (l10.length + y2.length ≤ lim)) <|
     l91o1 s7 b8 q1 m (n6.fdiv (2 ^ (min (7 : Int).toNat (IntKind.bits .i64)))) (.d (.b y1)) (l10 ++ y2)
    else
     q1 n6 y1 l10
/-- impl.Var -/
def t91 (n1 : Int) : Rs :=
  let y1 := t62 n1 0 562949953421311
  chk (okR zr62 zo62 y1) <|
  let y2 := !(asB (resC y1 0 0))
  if y2 then
   some ([.one (.s (⟨#[]⟩ : ByteArray))], [])
  else
   l91o1 (⟨#[]⟩ : ByteArray) y2
    (fun (n19 : Int) (b20 : Bool) (l21 : List (List D)) =>
     let y3 := ([[.i .u8 (IntKind.wrap .u8 n19)]] : List (List D))
     chk ((flatR 1 y3) && decide (l21.length + y3.length ≤ lim)) <|
     let y4 := l21 ++ y3
     chk (isBytes y4) <|
     some ([.one (.s ⟨(bytesD y4).toArray⟩)], [])) KK n1 SV.undef ([] : List (List D))
def zr91 : List DV := [.one (.s ⟨#[]⟩)]
def zo91 : List (List D) := []
def A91 : List TA := [.one (.i .i64)]
def v91 (vs : List Vr) : Rs := t91 (vI vs 0)
def g91 (xs : List DV) : Bool × List DV × List (List D) := gOf zr91 zo91 (argsT A91 v91 xs)
def l82o0 (l8 : List (List D)) (s9 : ByteArray) (l12 : List (List D)) (n13 : Int) (q1 : ByteArray → SV → Int → Bool → Rs) : Nat → ByteArray → SV → Int → SV → Rs
  | 0, _, _, _, _ => none
  | m + 1, s10, v11, n14, v15 =>
    let y1 := decide (n14 < n13)
    if y1 then
     let y2 := l12.getD n14.toNat []
     chk (decide (0 ≤ n14) && decide (n14 < l12.length) && isRow z3 y2) <|
     let y3 := asI (nthD y2 0)
     let y4 := t91 y3
     chk (okR zr91 zo91 y4) <|
     let y5 := asS (resC y4 0 0)
     chk (decide (s10.size + y5.size ≤ lim)) <|
     l82o0 l8 s9 l12 n13 q1 m (s10 ++ y5) (.d (.i .i64 y3)) (w64 (n14 + 1)) (.d (.b y1))
    else
     q1 s10 (keepV [] v11) n14 y1
/-- impl.vars -/
def t82 (l1 : List (List D)) : Rs :=
  l82o0 l1 (⟨#[]⟩ : ByteArray) l1 (l1.length : Int)
   (fun (s28 : ByteArray) (v29 : SV) (n30 : Int) (b31 : Bool) =>
    some ([.one (.s s28)], [])) KK (⟨#[]⟩ : ByteArray) SV.undef 0 SV.undef
def zr82 : List DV := [.one (.s ⟨#[]⟩)]
def zo82 : List (List D) := []
def A82 : List TA := [.one (.l)]
def v82 (vs : List Vr) : Rs := t82 (vL vs 0)
def g82 (xs : List DV) : Bool × List DV × List (List D) := gOf zr82 zo82 (argsT A82 v82 xs)
/-- impl.piece -/
def t83 (s1 : ByteArray) : Rs :=
  let y1 := t91 (s1.size : Int)
  chk (okR zr91 zo91 y1) <|
  let y2 := asS (resC y1 0 0)
  chk (decide (y2.size + s1.size ≤ lim)) <|
  some ([.one (.s (y2 ++ s1))], [])
def zr83 : List DV := [.one (.s ⟨#[]⟩)]
def zo83 : List (List D) := []
def A83 : List TA := [.one (.s)]
def v83 (vs : List Vr) : Rs := t83 (vS vs 0)
def g83 (xs : List DV) : Bool × List DV × List (List D) := gOf zr83 zo83 (argsT A83 v83 xs)
def l49o2 (n41 : Int) (n42 : Int) (n43 : Int) (n44 : Int) (n45 : Int) (n46 : Int) (n47 : Int) (b48 : Bool) (l49 : List (List D)) (s50 : ByteArray) (s51 : ByteArray) (n52 : Int) (b54 : Bool) (b55 : Bool) (l56 : List (List D)) (n57 : Int) (n60 : Int) (n61 : Int) (n62 : Int) (n63 : Int) (n64 : Int) (n65 : Int) (n66 : Int) (b67 : Bool) (l68 : List (List D)) (s69 : ByteArray) (l70 : List (List D)) (q1 : ByteArray → Int → Bool → Rs) : Nat → ByteArray → Int → SV → Rs
  | 0, _, _, _ => none
  | m + 1, s53, n58, v59 =>
    let y1 := decide (n58 < n57)
    if y1 then
     let y2 := l56.getD n58.toNat []
     chk (decide (0 ≤ n58) && decide (n58 < l56.length) && isRow z119 y2) <|
     let y3 := t91 (asI (nthD y2 0))
     chk (okR zr91 zo91 y3) <|
     let y4 := asS (resC y3 0 0)
     chk (decide (s53.size + y4.size ≤ lim)) <|
     let y5 := t83 (asS (nthD y2 1))
     chk (okR zr83 zo83 y5) <|
     let y6 := s53 ++ y4
     let y7 := asS (resC y5 0 0)
     chk (decide (y6.size + y7.size ≤ lim)) <|
     l49o2 n41 n42 n43 n44 n45 n46 n47 b48 l49 s50 s51 n52 b54 b55 l56 n57 n60 n61 n62 n63 n64 n65 n66 b67 l68 s69 l70 q1 m (y6 ++ y7) (w64 (n58 + 1)) (.d (.b y1))
    else
     q1 s53 n58 y1
/-- impl.ShowMsg -/
def t49 (n1 : Int) (n2 : Int) (n3 : Int) (n4 : Int) (n5 : Int) (n6 : Int) (n7 : Int) (b8 : Bool) (l9 : List (List D)) (s10 : ByteArray) : Rs :=
  let y1 := t39 n1 n2 n3 n4 n5 n6 n7 b8 l9 s10
  chk (okR zr39 zo39 y1) <|
  let y2 := !(asB (resC y1 0 0))
  if y2 then
   some ([.one (.s (⟨#[]⟩ : ByteArray))], [])
  else
   let k1 := fun (n11 : Int) =>
    let y3 := ([[.i .i64 n1], [.i .i64 n2], [.i .i64 n3], [.i .i64 n4], [.i .i64 n5], [.i .i64 n6], [.i .i64 n7], [.i .i64 n11], [.i .i64 (l9.length : Int)]] : List (List D))
    let y4 := t82 y3
    chk (okR zr82 zo82 y4) <|
    let y5 := asS (resC y4 0 0)
    chk (decide ((⟨#[109]⟩ : ByteArray).size + y5.size ≤ lim)) <|
    l49o2 n1 n2 n3 n4 n5 n6 n7 b8 l9 s10 (⟨#[]⟩ : ByteArray) n11 y2 b8 l9 (l9.length : Int) n1 n2 n3 n4 n5 n6 n7 b8 l9 s10 y3
     (fun (s104 : ByteArray) (n105 : Int) (b106 : Bool) =>
      chk (decide (s104.size + s10.size ≤ lim)) <|
      some ([.one (.s (s104 ++ s10))], [])) KK ((⟨#[109]⟩ : ByteArray) ++ y5) 0 SV.undef
   if b8 then
    k1 1
   else
    k1 0
def zr49 : List DV := [.one (.s ⟨#[]⟩)]
def zo49 : List (List D) := []
def A49 : List TA := [.agg [.i .i64, .i .i64, .i .i64, .i .i64, .i .i64, .i .i64, .i .i64, .b, .l, .s]]
def v49 (vs : List Vr) : Rs := t49 (vI vs 0) (vI vs 1) (vI vs 2) (vI vs 3) (vI vs 4) (vI vs 5) (vI vs 6) (vB vs 7) (vL vs 8) (vS vs 9)
def g49 (xs : List DV) : Bool × List DV × List (List D) := gOf zr49 zo49 (argsT A49 v49 xs)
/-- laws.eqEntry -/
def t117 (n1 : Int) (s2 : ByteArray) (n3 : Int) (s4 : ByteArray) : Rs :=
  if n1 != n3 then
   some ([.one (.b false)], [])
  else
   if !(s2.toList == s4.toList) then
    some ([.one (.b false)], [])
   else
    some ([.one (.b true)], [])
def zr117 : List DV := [.one (.b false)]
def zo117 : List (List D) := []
def A117 : List TA := [.agg [.i .i64, .s], .agg [.i .i64, .s]]
def v117 (vs : List Vr) : Rs := t117 (vI vs 0) (vS vs 1) (vI vs 2) (vS vs 3)
def g117 (xs : List DV) : Bool × List DV × List (List D) := gOf zr117 zo117 (argsT A117 v117 xs)
def l80o1 (l8 : List (List D)) (l9 : List (List D)) (b10 : Bool) (b12 : Bool) (q1 : Int → Bool → Bool → Rs) (q2 : Int → Bool → SV → Rs) : Nat → Int → SV → SV → Rs
  | 0, _, _, _ => none
  | m + 1, n11, v13, v14 =>
    let y1 := decide (n11 < (l8.length : Int))
    if y1 then
     let y2 := l8.getD n11.toNat []
     chk (decide (0 ≤ n11) && decide (n11 < l8.length) && isRow z119 y2) <|
     let y3 := l9.getD n11.toNat []
     chk (decide (0 ≤ n11) && decide (n11 < l9.length) && isRow z119 y3) <|
     let y4 := t117 (asI (nthD y2 0)) (asS (nthD y2 1)) (asI (nthD y3 0)) (asS (nthD y3 1))
     chk (okR zr117 zo117 y4) <|
     let y5 := !(asB (resC y4 0 0))
     if y5 then
      q1 n11 y1 y5
     else
      l80o1 l8 l9 b10 b12 q1 q2 m (w64 (n11 + 1)) (.d (.b y1)) (.d (.b y5))
    else
     q2 n11 y1 (keepV [] v14)
/-- laws.eqEntryS -/
def t80 (l1 : List (List D)) (l2 : List (List D)) : Rs :=
  let y1 := (l1.length : Int) != (l2.length : Int)
  if y1 then
   some ([.one (.b false)], [])
  else
   l80o1 l1 l2 false y1
    (fun (n28 : Int) (b29 : Bool) (b30 : Bool) =>
     some ([.one (.b false)], []))
    (fun (n31 : Int) (b32 : Bool) (v33 : SV) =>
     some ([.one (.b true)], [])) KK 0 SV.undef SV.undef
def zr80 : List DV := [.one (.b false)]
def zo80 : List (List D) := []
def A80 : List TA := [.one (.l), .one (.l)]
def v80 (vs : List Vr) : Rs := t80 (vL vs 0) (vL vs 1)
def g80 (xs : List DV) : Bool × List DV × List (List D) := gOf zr80 zo80 (argsT A80 v80 xs)
/-- laws.eqMsg -/
def t40 (n1 : Int) (n2 : Int) (n3 : Int) (n4 : Int) (n5 : Int) (n6 : Int) (n7 : Int) (b8 : Bool) (l9 : List (List D)) (s10 : ByteArray) (n11 : Int) (n12 : Int) (n13 : Int) (n14 : Int) (n15 : Int) (n16 : Int) (n17 : Int) (b18 : Bool) (l19 : List (List D)) (s20 : ByteArray) : Rs :=
  if n1 != n11 then
   some ([.one (.b false)], [])
  else
   if n2 != n12 then
    some ([.one (.b false)], [])
   else
    if n3 != n13 then
     some ([.one (.b false)], [])
    else
     if n4 != n14 then
      some ([.one (.b false)], [])
     else
      if n5 != n15 then
       some ([.one (.b false)], [])
      else
       if n6 != n16 then
        some ([.one (.b false)], [])
       else
        if n7 != n17 then
         some ([.one (.b false)], [])
        else
         if !(b8 == b18) then
          some ([.one (.b false)], [])
         else
          chk (okR zr80 zo80 (t80 l9 l19)) <|
          if !(asB (resC (t80 l9 l19) 0 0)) then
           some ([.one (.b false)], [])
          else
           if !(s10.toList == s20.toList) then
            some ([.one (.b false)], [])
           else
            some ([.one (.b true)], [])
def zr40 : List DV := [.one (.b false)]
def zo40 : List (List D) := []
def A40 : List TA := [.agg [.i .i64, .i .i64, .i .i64, .i .i64, .i .i64, .i .i64, .i .i64, .b, .l, .s], .agg [.i .i64, .i .i64, .i .i64, .i .i64, .i .i64, .i .i64, .i .i64, .b, .l, .s]]
def v40 (vs : List Vr) : Rs := t40 (vI vs 0) (vI vs 1) (vI vs 2) (vI vs 3) (vI vs 4) (vI vs 5) (vI vs 6) (vB vs 7) (vL vs 8) (vS vs 9) (vI vs 10) (vI vs 11) (vI vs 12) (vI vs 13) (vI vs 14) (vI vs 15) (vI vs 16) (vB vs 17) (vL vs 18) (vS vs 19)
def g40 (xs : List DV) : Bool × List DV × List (List D) := gOf zr40 zo40 (argsT A40 v40 xs)
/-- laws.FnExactShowMsg -/
def t11 (n1 : Int) (n2 : Int) (n3 : Int) (n4 : Int) (n5 : Int) (n6 : Int) (n7 : Int) (b8 : Bool) (l9 : List (List D)) (s10 : ByteArray) : Rs :=
  let y1 := t36 n1 n2 n3 n4 n5 n6 n7 b8 l9 s10 1048576
  chk (okR zr36 zo36 y1) <|
  if decide ((asI (resC y1 0 0)) < 0) then
   some ([.one (.b true)], [])
  else
   let y2 := t38 n1 n2 n3 n4 n5 n6 n7 b8 l9 s10
   chk (okR zr38 zo38 y2) <|
   let y3 := t48 (asI (resC y2 0 0)) (asI (resC y2 0 1)) (asI (resC y2 0 2)) (asI (resC y2 0 3)) (asI (resC y2 0 4)) (asI (resC y2 0 5)) (asI (resC y2 0 6)) (asB (resC y2 0 7)) (asL (resC y2 0 8)) (asS (resC y2 0 9))
   chk (okR zr48 zo48 y3) <|
   let y4 := t38 n1 n2 n3 n4 n5 n6 n7 b8 l9 s10
   chk (okR zr38 zo38 y4) <|
   let y5 := asI (resC y4 0 0)
   let y6 := asI (resC y4 0 1)
   let y7 := asI (resC y4 0 2)
   let y8 := asI (resC y4 0 3)
   let y9 := asI (resC y4 0 4)
   let y10 := asI (resC y4 0 5)
   let y11 := asI (resC y4 0 6)
   let y12 := asB (resC y4 0 7)
   let y13 := asL (resC y4 0 8)
   let y14 := asS (resC y4 0 9)
   let y15 := t49 y5 y6 y7 y8 y9 y10 y11 y12 y13 y14
   chk (okR zr49 zo49 y15) <|
   if !((asS (resC y15 0 0)).toList == (asS (resC y3 0 0)).toList) then
    some ([.one (.b false)], [])
   else
    let y16 := t38 n1 n2 n3 n4 n5 n6 n7 b8 l9 s10
    chk (okR zr38 zo38 y16) <|
    let y17 := t40 y5 y6 y7 y8 y9 y10 y11 y12 y13 y14 (asI (resC y16 0 0)) (asI (resC y16 0 1)) (asI (resC y16 0 2)) (asI (resC y16 0 3)) (asI (resC y16 0 4)) (asI (resC y16 0 5)) (asI (resC y16 0 6)) (asB (resC y16 0 7)) (asL (resC y16 0 8)) (asS (resC y16 0 9))
    chk (okR zr40 zo40 y17) <|
    if !(asB (resC y17 0 0)) then
     some ([.one (.b false)], [])
    else
     some ([.one (.b true)], [])
def zr11 : List DV := [.one (.b false)]
def zo11 : List (List D) := []
def A11 : List TA := [.agg [.i .i64, .i .i64, .i .i64, .i .i64, .i .i64, .i .i64, .i .i64, .b, .l, .s]]
def v11 (vs : List Vr) : Rs := t11 (vI vs 0) (vI vs 1) (vI vs 2) (vI vs 3) (vI vs 4) (vI vs 5) (vI vs 6) (vB vs 7) (vL vs 8) (vS vs 9)
def g11 (xs : List DV) : Bool × List DV × List (List D) := gOf zr11 zo11 (argsT A11 v11 xs)
end
end Go.Den.L11
