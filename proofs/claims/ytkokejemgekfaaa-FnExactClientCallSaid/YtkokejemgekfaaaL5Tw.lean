/- What the functions come to, as plain Lean. Printed by tw.py. -/
import Derived.Test.YtkokejemgekfaaaDm7
set_option linter.unusedVariables false
namespace Go.Den.L5
open Go
noncomputable section
@[irreducible] def KK : Nat := 2 ^ 64
def w64 (x : Int) : Int := IntKind.wrap .i64 x
def chk (b : Bool) (x : Rs) : Rs := if b then x else none
def bitAnd (k : IntKind) (a b : Int) : Int := k.wrap (BitVec.ofInt k.bits a &&& BitVec.ofInt k.bits b).toNat
def bitOr (k : IntKind) (a b : Int) : Int := k.wrap (BitVec.ofInt k.bits a ||| BitVec.ofInt k.bits b).toNat
def bitXor (k : IntKind) (a b : Int) : Int := k.wrap (BitVec.ofInt k.bits a ^^^ BitVec.ofInt k.bits b).toNat
def stR (xs : List (List D)) (i off : Nat) (ys : List D) : List (List D) := xs.modify i fun r => r.take off ++ ys ++ r.drop (off + ys.length)
/-- laws.szCall -/
def t23 (n1 : Int) (s2 : ByteArray) (s3 : ByteArray) (n4 : Int) (n5 : Int) (s6 : ByteArray) (n7 : Int) : Rs :=
  let y1 := w64 (n7 - (s2.size : Int))
  if decide (y1 < 0) then
   some ([.one (.i .i64 (-1))], [])
  else
   let y2 := w64 (y1 - (s3.size : Int))
   if decide (y2 < 0) then
    some ([.one (.i .i64 (-1))], [])
   else
    let y3 := w64 (y2 - (s6.size : Int))
    if decide (y3 < 0) then
     some ([.one (.i .i64 (-1))], [])
    else
     some ([.one (.i .i64 y3)], [])
def zr23 : List DV := [.one (.i .i64 0)]
def zo23 : List (List D) := []
def A23 : List TA := [.agg [.i .i64, .s, .s, .i .i64, .i .i64, .s], .one (.i .i64)]
def v23 (vs : List Vr) : Rs := t23 (vI vs 0) (vS vs 1) (vS vs 2) (vI vs 3) (vI vs 4) (vS vs 5) (vI vs 6)
def g23 (xs : List DV) : Bool × List DV × List (List D) := gOf zr23 zo23 (argsT A23 v23 xs)
/-- laws.szClient -/
def t19 (n1 : Int) (n2 : Int) (n3 : Int) (b4 : Bool) (n5 : Int) (s6 : ByteArray) (s7 : ByteArray) (n8 : Int) (n9 : Int) (s10 : ByteArray) (n11 : Int) (n12 : Int) : Rs :=
  let y1 := t23 n5 s6 s7 n8 n9 s10 n12
  chk (okR zr23 zo23 y1) <|
  let y2 := asI (resC y1 0 0)
  if decide (y2 < 0) then
   some ([.one (.i .i64 (-1))], [])
  else
   some ([.one (.i .i64 y2)], [])
def zr19 : List DV := [.one (.i .i64 0)]
def zo19 : List (List D) := []
def A19 : List TA := [.agg [.i .i64, .i .i64, .i .i64, .b, .i .i64, .s, .s, .i .i64, .i .i64, .s, .i .i64], .one (.i .i64)]
def v19 (vs : List Vr) : Rs := t19 (vI vs 0) (vI vs 1) (vI vs 2) (vB vs 3) (vI vs 4) (vS vs 5) (vS vs 6) (vI vs 7) (vI vs 8) (vS vs 9) (vI vs 10) (vI vs 11)
def g19 (xs : List DV) : Bool × List DV × List (List D) := gOf zr19 zo19 (argsT A19 v19 xs)
/-- laws.toCall -/
def t25 (n1 : Int) (s2 : ByteArray) (s3 : ByteArray) (n4 : Int) (n5 : Int) (s6 : ByteArray) : Rs :=
  some ([.agg [.i .i64 n1, .s s2, .s s3, .i .i64 n4, .i .i64 n5, .s s6]], [])
def zr25 : List DV := [.agg [.i .i64 0, .s ⟨#[]⟩, .s ⟨#[]⟩, .i .i64 0, .i .i64 0, .s ⟨#[]⟩]]
def zo25 : List (List D) := []
def A25 : List TA := [.agg [.i .i64, .s, .s, .i .i64, .i .i64, .s]]
def v25 (vs : List Vr) : Rs := t25 (vI vs 0) (vS vs 1) (vS vs 2) (vI vs 3) (vI vs 4) (vS vs 5)
def g25 (xs : List DV) : Bool × List DV × List (List D) := gOf zr25 zo25 (argsT A25 v25 xs)
/-- laws.toClient -/
def t21 (n1 : Int) (n2 : Int) (n3 : Int) (b4 : Bool) (n5 : Int) (s6 : ByteArray) (s7 : ByteArray) (n8 : Int) (n9 : Int) (s10 : ByteArray) (n11 : Int) : Rs :=
  let y1 := t25 n5 s6 s7 n8 n9 s10
  chk (okR zr25 zo25 y1) <|
  some ([.agg [.i .i64 n1, .i .i64 n2, .i .i64 n3, .b b4, .i .i64 (asI (resC y1 0 0)), .s (asS (resC y1 0 1)), .s (asS (resC y1 0 2)), .i .i64 (asI (resC y1 0 3)), .i .i64 (asI (resC y1 0 4)), .s (asS (resC y1 0 5)), .i .i64 n11]], [])
def zr21 : List DV := [.agg [.i .i64 0, .i .i64 0, .i .i64 0, .b false, .i .i64 0, .s ⟨#[]⟩, .s ⟨#[]⟩, .i .i64 0, .i .i64 0, .s ⟨#[]⟩, .i .i64 0]]
def zo21 : List (List D) := []
def A21 : List TA := [.agg [.i .i64, .i .i64, .i .i64, .b, .i .i64, .s, .s, .i .i64, .i .i64, .s, .i .i64]]
def v21 (vs : List Vr) : Rs := t21 (vI vs 0) (vI vs 1) (vI vs 2) (vB vs 3) (vI vs 4) (vS vs 5) (vS vs 6) (vI vs 7) (vI vs 8) (vS vs 9) (vI vs 10)
def g21 (xs : List DV) : Bool × List DV × List (List D) := gOf zr21 zo21 (argsT A21 v21 xs)
/-- spec.l15Tenant -/
def t64 (n1 : Int) : Rs :=
  some ([.one (.b ((decide (n1 ≥ 0)) && (decide (n1 < 3))))], [])
def zr64 : List DV := [.one (.b false)]
def zo64 : List (List D) := []
def A64 : List TA := [.one (.i .i64)]
def v64 (vs : List Vr) : Rs := t64 (vI vs 0)
def g64 (xs : List DV) : Bool × List DV × List (List D) := gOf zr64 zo64 (argsT A64 v64 xs)
/-- spec.l1In -/
def t60 (n1 : Int) (n2 : Int) (n3 : Int) : Rs :=
  some ([.one (.b ((decide (n1 ≥ n2)) && (decide (n1 ≤ n3))))], [])
def zr60 : List DV := [.one (.b false)]
def zo60 : List (List D) := []
def A60 : List TA := [.one (.i .i64), .one (.i .i64), .one (.i .i64)]
def v60 (vs : List Vr) : Rs := t60 (vI vs 0) (vI vs 1) (vI vs 2)
def g60 (xs : List DV) : Bool × List DV × List (List D) := gOf zr60 zo60 (argsT A60 v60 xs)
/-- spec.CallOk -/
def t61 (n1 : Int) (s2 : ByteArray) (s3 : ByteArray) (n4 : Int) (n5 : Int) (s6 : ByteArray) : Rs :=
  let y1 := t60 n1 1 22
  chk (okR zr60 zo60 y1) <|
  let y2 := t60 n4 (-1000000) 1000000
  let y3 := (((!(asB (resC y1 0 0))) || (decide ((s2.size : Int) > 60))) || (decide ((s3.size : Int) > 60))) || (decide ((s6.size : Int) > 64))
  chk ((okR zr60 zo60 y2) || !(!y3)) <|
  let y4 := t60 n5 (-1000000) 1000000
  let y5 := y3 || (!(asB (resC y2 0 0)))
  chk ((okR zr60 zo60 y4) || !(!y5)) <|
  if y5 || (!(asB (resC y4 0 0))) then
   some ([.one (.b false)], [])
  else
   if (((!(s3.toList == (⟨#[]⟩ : ByteArray).toList)) && (n1 != 9)) && (n1 != 10)) && (n1 != 12) then
    some ([.one (.b false)], [])
   else
    some ([.one (.b (((s6.toList == (⟨#[]⟩ : ByteArray).toList) || (n1 == 5)) || (n1 == 6)))], [])
def zr61 : List DV := [.one (.b false)]
def zo61 : List (List D) := []
def A61 : List TA := [.agg [.i .i64, .s, .s, .i .i64, .i .i64, .s]]
def v61 (vs : List Vr) : Rs := t61 (vI vs 0) (vS vs 1) (vS vs 2) (vI vs 3) (vI vs 4) (vS vs 5)
def g61 (xs : List DV) : Bool × List DV × List (List D) := gOf zr61 zo61 (argsT A61 v61 xs)
/-- spec.ClientOk -/
def t20 (n1 : Int) (n2 : Int) (n3 : Int) (b4 : Bool) (n5 : Int) (s6 : ByteArray) (s7 : ByteArray) (n8 : Int) (n9 : Int) (s10 : ByteArray) (n11 : Int) : Rs :=
  chk (okR zr64 zo64 (t64 n1)) <|
  let y1 := !(asB (resC (t64 n1) 0 0))
  chk ((okR zr60 zo60 (t60 n2 1 3)) || !(!y1)) <|
  let y2 := t60 n3 0 1000000
  let y3 := y1 || (!(asB (resC (t60 n2 1 3) 0 0)))
  chk ((okR zr60 zo60 y2) || !(!y3)) <|
  let y4 := t60 n11 0 1000000
  let y5 := y3 || (!(asB (resC y2 0 0)))
  chk ((okR zr60 zo60 y4) || !(!y5)) <|
  if y5 || (!(asB (resC y4 0 0))) then
   some ([.one (.b false)], [])
  else
   if b4 then
    let y6 := t61 n5 s6 s7 n8 n9 s10
    let y7 := decide (n3 ≥ 1)
    chk ((okR zr61 zo61 y6) || !y7) <|
    some ([.one (.b (y7 && (asB (resC y6 0 0))))], [])
   else
    some ([.one (.b (((n5 == 0) && ((s6.toList == (⟨#[]⟩ : ByteArray).toList) && ((s7.toList == (⟨#[]⟩ : ByteArray).toList) && ((n8 == 0) && ((n9 == 0) && ((s10.toList == (⟨#[]⟩ : ByteArray).toList) && true)))))) && (n11 == 0)))], [])
def zr20 : List DV := [.one (.b false)]
def zo20 : List (List D) := []
def A20 : List TA := [.agg [.i .i64, .i .i64, .i .i64, .b, .i .i64, .s, .s, .i .i64, .i .i64, .s, .i .i64]]
def v20 (vs : List Vr) : Rs := t20 (vI vs 0) (vI vs 1) (vI vs 2) (vB vs 3) (vI vs 4) (vS vs 5) (vS vs 6) (vI vs 7) (vI vs 8) (vS vs 9) (vI vs 10)
def g20 (xs : List DV) : Bool × List DV × List (List D) := gOf zr20 zo20 (argsT A20 v20 xs)
/-- spec.ClientCall -/
def t24 (n1 : Int) (n2 : Int) (n3 : Int) (b4 : Bool) (n5 : Int) (s6 : ByteArray) (s7 : ByteArray) (n8 : Int) (n9 : Int) (s10 : ByteArray) (n11 : Int) (n12 : Int) (s13 : ByteArray) (s14 : ByteArray) (n15 : Int) (n16 : Int) (s17 : ByteArray) (n18 : Int) : Rs :=
  let y1 := t20 n1 n2 n3 b4 n5 s6 s7 n8 n9 s10 n11
  chk (okR zr20 zo20 y1) <|
  if !(asB (resC y1 0 0)) then
   some ([.agg [.i .i64 0, .i .i64 0, .i .i64 0, .b false, .i .i64 0, .s (⟨#[]⟩ : ByteArray), .s (⟨#[]⟩ : ByteArray), .i .i64 0, .i .i64 0, .s (⟨#[]⟩ : ByteArray), .i .i64 0], .one (.b false)], [])
  else
   let y2 := t61 n12 s13 s14 n15 n16 s17
   chk ((okR zr61 zo61 y2) || !(!b4)) <|
   let y3 := t60 n18 0 1000000
   let y4 := (b4 || (!(asB (resC y2 0 0)))) || (decide (n3 ≥ 1000000))
   chk ((okR zr60 zo60 y3) || !(!y4)) <|
   if y4 || (!(asB (resC y3 0 0))) then
    some ([.agg [.i .i64 n1, .i .i64 n2, .i .i64 n3, .b b4, .i .i64 n5, .s s6, .s s7, .i .i64 n8, .i .i64 n9, .s s10, .i .i64 n11], .one (.b false)], [])
   else
    some ([.agg [.i .i64 n1, .i .i64 n2, .i .i64 (w64 (n3 + 1)), .b true, .i .i64 n12, .s s13, .s s14, .i .i64 n15, .i .i64 n16, .s s17, .i .i64 n18], .one (.b true)], [])
def zr24 : List DV := [.agg [.i .i64 0, .i .i64 0, .i .i64 0, .b false, .i .i64 0, .s ⟨#[]⟩, .s ⟨#[]⟩, .i .i64 0, .i .i64 0, .s ⟨#[]⟩, .i .i64 0], .one (.b false)]
def zo24 : List (List D) := []
def A24 : List TA := [.agg [.i .i64, .i .i64, .i .i64, .b, .i .i64, .s, .s, .i .i64, .i .i64, .s, .i .i64], .agg [.i .i64, .s, .s, .i .i64, .i .i64, .s], .one (.i .i64)]
def v24 (vs : List Vr) : Rs := t24 (vI vs 0) (vI vs 1) (vI vs 2) (vB vs 3) (vI vs 4) (vS vs 5) (vS vs 6) (vI vs 7) (vI vs 8) (vS vs 9) (vI vs 10) (vI vs 11) (vS vs 12) (vS vs 13) (vI vs 14) (vI vs 15) (vS vs 16) (vI vs 17)
def g24 (xs : List DV) : Bool × List DV × List (List D) := gOf zr24 zo24 (argsT A24 v24 xs)
/-- impl.within -/
def t62 (n1 : Int) (n2 : Int) (n3 : Int) : Rs :=
  some ([.one (.b ((decide (n1 ≥ n2)) && (decide (n1 ≤ n3))))], [])
def zr62 : List DV := [.one (.b false)]
def zo62 : List (List D) := []
def A62 : List TA := [.one (.i .i64), .one (.i .i64), .one (.i .i64)]
def v62 (vs : List Vr) : Rs := t62 (vI vs 0) (vI vs 1) (vI vs 2)
def g62 (xs : List DV) : Bool × List DV × List (List D) := gOf zr62 zo62 (argsT A62 v62 xs)
/-- impl.CallOk -/
def t63 (n1 : Int) (s2 : ByteArray) (s3 : ByteArray) (n4 : Int) (n5 : Int) (s6 : ByteArray) : Rs :=
  if ((!(((n1 == 9) || (n1 == 10)) || (n1 == 12))) && (!(s3.toList == (⟨#[]⟩ : ByteArray).toList))) || ((!((n1 == 5) || (n1 == 6))) && (!(s6.toList == (⟨#[]⟩ : ByteArray).toList))) then
   some ([.one (.b false)], [])
  else
   let y1 := t62 n1 1 22
   chk (okR zr62 zo62 y1) <|
   let y2 := t62 n4 (-1000000) 1000000
   let y3 := (((asB (resC y1 0 0)) && (decide ((s2.size : Int) ≤ 60))) && (decide ((s3.size : Int) ≤ 60))) && (decide ((s6.size : Int) ≤ 64))
   chk ((okR zr62 zo62 y2) || !y3) <|
   let y4 := t62 n5 (-1000000) 1000000
   let y5 := y3 && (asB (resC y2 0 0))
   chk ((okR zr62 zo62 y4) || !y5) <|
   some ([.one (.b (y5 && (asB (resC y4 0 0))))], [])
def zr63 : List DV := [.one (.b false)]
def zo63 : List (List D) := []
def A63 : List TA := [.agg [.i .i64, .s, .s, .i .i64, .i .i64, .s]]
def v63 (vs : List Vr) : Rs := t63 (vI vs 0) (vS vs 1) (vS vs 2) (vI vs 3) (vI vs 4) (vS vs 5)
def g63 (xs : List DV) : Bool × List DV × List (List D) := gOf zr63 zo63 (argsT A63 v63 xs)
/-- impl.ClientOk -/
def t22 (n1 : Int) (n2 : Int) (n3 : Int) (b4 : Bool) (n5 : Int) (s6 : ByteArray) (s7 : ByteArray) (n8 : Int) (n9 : Int) (s10 : ByteArray) (n11 : Int) : Rs :=
  chk (okR zr62 zo62 (t62 n1 0 2)) <|
  let y1 := !(asB (resC (t62 n1 0 2) 0 0))
  chk ((okR zr62 zo62 (t62 n2 1 3)) || !(!y1)) <|
  let y2 := t62 n3 0 1000000
  let y3 := y1 || (!(asB (resC (t62 n2 1 3) 0 0)))
  chk ((okR zr62 zo62 y2) || !(!y3)) <|
  let y4 := t62 n11 0 1000000
  let y5 := y3 || (!(asB (resC y2 0 0)))
  chk ((okR zr62 zo62 y4) || !(!y5)) <|
  if y5 || (!(asB (resC y4 0 0))) then
   some ([.one (.b false)], [])
  else
   if b4 then
    let y6 := t63 n5 s6 s7 n8 n9 s10
    let y7 := decide (n3 ≥ 1)
    chk ((okR zr63 zo63 y6) || !y7) <|
    some ([.one (.b (y7 && (asB (resC y6 0 0))))], [])
   else
    some ([.one (.b (((n5 == 0) && ((s6.toList == (⟨#[]⟩ : ByteArray).toList) && ((s7.toList == (⟨#[]⟩ : ByteArray).toList) && ((n8 == 0) && ((n9 == 0) && ((s10.toList == (⟨#[]⟩ : ByteArray).toList) && true)))))) && (n11 == 0)))], [])
def zr22 : List DV := [.one (.b false)]
def zo22 : List (List D) := []
def A22 : List TA := [.agg [.i .i64, .i .i64, .i .i64, .b, .i .i64, .s, .s, .i .i64, .i .i64, .s, .i .i64]]
def v22 (vs : List Vr) : Rs := t22 (vI vs 0) (vI vs 1) (vI vs 2) (vB vs 3) (vI vs 4) (vS vs 5) (vS vs 6) (vI vs 7) (vI vs 8) (vS vs 9) (vI vs 10)
def g22 (xs : List DV) : Bool × List DV × List (List D) := gOf zr22 zo22 (argsT A22 v22 xs)
/-- impl.ClientCall -/
def t26 (n1 : Int) (n2 : Int) (n3 : Int) (b4 : Bool) (n5 : Int) (s6 : ByteArray) (s7 : ByteArray) (n8 : Int) (n9 : Int) (s10 : ByteArray) (n11 : Int) (n12 : Int) (s13 : ByteArray) (s14 : ByteArray) (n15 : Int) (n16 : Int) (s17 : ByteArray) (n18 : Int) : Rs :=
  let y1 := t22 n1 n2 n3 b4 n5 s6 s7 n8 n9 s10 n11
  chk (okR zr22 zo22 y1) <|
  if !(asB (resC y1 0 0)) then
   some ([.agg [.i .i64 0, .i .i64 0, .i .i64 0, .b false, .i .i64 0, .s (⟨#[]⟩ : ByteArray), .s (⟨#[]⟩ : ByteArray), .i .i64 0, .i .i64 0, .s (⟨#[]⟩ : ByteArray), .i .i64 0], .one (.b false)], [])
  else
   let y2 := t63 n12 s13 s14 n15 n16 s17
   chk ((okR zr63 zo63 y2) || !(!b4)) <|
   let y3 := t62 n18 0 1000000
   let y4 := (b4 || (!(asB (resC y2 0 0)))) || (n3 == 1000000)
   chk ((okR zr62 zo62 y3) || !(!y4)) <|
   if y4 || (!(asB (resC y3 0 0))) then
    some ([.agg [.i .i64 n1, .i .i64 n2, .i .i64 n3, .b b4, .i .i64 n5, .s s6, .s s7, .i .i64 n8, .i .i64 n9, .s s10, .i .i64 n11], .one (.b false)], [])
   else
    some ([.agg [.i .i64 n1, .i .i64 n2, .i .i64 (w64 (n3 + 1)), .b true, .i .i64 n12, .s s13, .s s14, .i .i64 n15, .i .i64 n16, .s s17, .i .i64 n18], .one (.b true)], [])
def zr26 : List DV := [.agg [.i .i64 0, .i .i64 0, .i .i64 0, .b false, .i .i64 0, .s ⟨#[]⟩, .s ⟨#[]⟩, .i .i64 0, .i .i64 0, .s ⟨#[]⟩, .i .i64 0], .one (.b false)]
def zo26 : List (List D) := []
def A26 : List TA := [.agg [.i .i64, .i .i64, .i .i64, .b, .i .i64, .s, .s, .i .i64, .i .i64, .s, .i .i64], .agg [.i .i64, .s, .s, .i .i64, .i .i64, .s], .one (.i .i64)]
def v26 (vs : List Vr) : Rs := t26 (vI vs 0) (vI vs 1) (vI vs 2) (vB vs 3) (vI vs 4) (vS vs 5) (vS vs 6) (vI vs 7) (vI vs 8) (vS vs 9) (vI vs 10) (vI vs 11) (vS vs 12) (vS vs 13) (vI vs 14) (vI vs 15) (vS vs 16) (vI vs 17)
def g26 (xs : List DV) : Bool × List DV × List (List D) := gOf zr26 zo26 (argsT A26 v26 xs)
/-- laws.eqCall -/
def t65 (n1 : Int) (s2 : ByteArray) (s3 : ByteArray) (n4 : Int) (n5 : Int) (s6 : ByteArray) (n7 : Int) (s8 : ByteArray) (s9 : ByteArray) (n10 : Int) (n11 : Int) (s12 : ByteArray) : Rs :=
  if n1 != n7 then
   some ([.one (.b false)], [])
  else
   if !(s2.toList == s8.toList) then
    some ([.one (.b false)], [])
   else
    if !(s3.toList == s9.toList) then
     some ([.one (.b false)], [])
    else
     if n4 != n10 then
      some ([.one (.b false)], [])
     else
      if n5 != n11 then
       some ([.one (.b false)], [])
      else
       if !(s6.toList == s12.toList) then
        some ([.one (.b false)], [])
       else
        some ([.one (.b true)], [])
def zr65 : List DV := [.one (.b false)]
def zo65 : List (List D) := []
def A65 : List TA := [.agg [.i .i64, .s, .s, .i .i64, .i .i64, .s], .agg [.i .i64, .s, .s, .i .i64, .i .i64, .s]]
def v65 (vs : List Vr) : Rs := t65 (vI vs 0) (vS vs 1) (vS vs 2) (vI vs 3) (vI vs 4) (vS vs 5) (vI vs 6) (vS vs 7) (vS vs 8) (vI vs 9) (vI vs 10) (vS vs 11)
def g65 (xs : List DV) : Bool × List DV × List (List D) := gOf zr65 zo65 (argsT A65 v65 xs)
/-- laws.eqClient -/
def t27 (n1 : Int) (n2 : Int) (n3 : Int) (b4 : Bool) (n5 : Int) (s6 : ByteArray) (s7 : ByteArray) (n8 : Int) (n9 : Int) (s10 : ByteArray) (n11 : Int) (n12 : Int) (n13 : Int) (n14 : Int) (b15 : Bool) (n16 : Int) (s17 : ByteArray) (s18 : ByteArray) (n19 : Int) (n20 : Int) (s21 : ByteArray) (n22 : Int) : Rs :=
  if n1 != n12 then
   some ([.one (.b false)], [])
  else
   if n2 != n13 then
    some ([.one (.b false)], [])
   else
    if n3 != n14 then
     some ([.one (.b false)], [])
    else
     if !(b4 == b15) then
      some ([.one (.b false)], [])
     else
      let y1 := t65 n5 s6 s7 n8 n9 s10 n16 s17 s18 n19 n20 s21
      chk (okR zr65 zo65 y1) <|
      if !(asB (resC y1 0 0)) then
       some ([.one (.b false)], [])
      else
       if n11 != n22 then
        some ([.one (.b false)], [])
       else
        some ([.one (.b true)], [])
def zr27 : List DV := [.one (.b false)]
def zo27 : List (List D) := []
def A27 : List TA := [.agg [.i .i64, .i .i64, .i .i64, .b, .i .i64, .s, .s, .i .i64, .i .i64, .s, .i .i64], .agg [.i .i64, .i .i64, .i .i64, .b, .i .i64, .s, .s, .i .i64, .i .i64, .s, .i .i64]]
def v27 (vs : List Vr) : Rs := t27 (vI vs 0) (vI vs 1) (vI vs 2) (vB vs 3) (vI vs 4) (vS vs 5) (vS vs 6) (vI vs 7) (vI vs 8) (vS vs 9) (vI vs 10) (vI vs 11) (vI vs 12) (vI vs 13) (vB vs 14) (vI vs 15) (vS vs 16) (vS vs 17) (vI vs 18) (vI vs 19) (vS vs 20) (vI vs 21)
def g27 (xs : List DV) : Bool × List DV × List (List D) := gOf zr27 zo27 (argsT A27 v27 xs)
/-- laws.FnExactClientCall -/
def t5 (n1 : Int) (n2 : Int) (n3 : Int) (b4 : Bool) (n5 : Int) (s6 : ByteArray) (s7 : ByteArray) (n8 : Int) (n9 : Int) (s10 : ByteArray) (n11 : Int) (n12 : Int) (s13 : ByteArray) (s14 : ByteArray) (n15 : Int) (n16 : Int) (s17 : ByteArray) (n18 : Int) : Rs :=
  let y1 := t19 n1 n2 n3 b4 n5 s6 s7 n8 n9 s10 n11 1048576
  chk (okR zr19 zo19 y1) <|
  let y2 := asI (resC y1 0 0)
  if decide (y2 < 0) then
   some ([.one (.b true)], [])
  else
   let y3 := t23 n12 s13 s14 n15 n16 s17 y2
   chk (okR zr23 zo23 y3) <|
   if decide ((asI (resC y3 0 0)) < 0) then
    some ([.one (.b true)], [])
   else
    let y4 := t21 n1 n2 n3 b4 n5 s6 s7 n8 n9 s10 n11
    chk (okR zr21 zo21 y4) <|
    let y5 := t25 n12 s13 s14 n15 n16 s17
    chk (okR zr25 zo25 y5) <|
    let y6 := t24 (asI (resC y4 0 0)) (asI (resC y4 0 1)) (asI (resC y4 0 2)) (asB (resC y4 0 3)) (asI (resC y4 0 4)) (asS (resC y4 0 5)) (asS (resC y4 0 6)) (asI (resC y4 0 7)) (asI (resC y4 0 8)) (asS (resC y4 0 9)) (asI (resC y4 0 10)) (asI (resC y5 0 0)) (asS (resC y5 0 1)) (asS (resC y5 0 2)) (asI (resC y5 0 3)) (asI (resC y5 0 4)) (asS (resC y5 0 5)) n18
    chk (okR zr24 zo24 y6) <|
    let y7 := t21 n1 n2 n3 b4 n5 s6 s7 n8 n9 s10 n11
    chk (okR zr21 zo21 y7) <|
    let y8 := t25 n12 s13 s14 n15 n16 s17
    chk (okR zr25 zo25 y8) <|
    let y9 := t26 (asI (resC y7 0 0)) (asI (resC y7 0 1)) (asI (resC y7 0 2)) (asB (resC y7 0 3)) (asI (resC y7 0 4)) (asS (resC y7 0 5)) (asS (resC y7 0 6)) (asI (resC y7 0 7)) (asI (resC y7 0 8)) (asS (resC y7 0 9)) (asI (resC y7 0 10)) (asI (resC y8 0 0)) (asS (resC y8 0 1)) (asS (resC y8 0 2)) (asI (resC y8 0 3)) (asI (resC y8 0 4)) (asS (resC y8 0 5)) n18
    chk (okR zr26 zo26 y9) <|
    let y10 := t27 (asI (resC y9 0 0)) (asI (resC y9 0 1)) (asI (resC y9 0 2)) (asB (resC y9 0 3)) (asI (resC y9 0 4)) (asS (resC y9 0 5)) (asS (resC y9 0 6)) (asI (resC y9 0 7)) (asI (resC y9 0 8)) (asS (resC y9 0 9)) (asI (resC y9 0 10)) (asI (resC y6 0 0)) (asI (resC y6 0 1)) (asI (resC y6 0 2)) (asB (resC y6 0 3)) (asI (resC y6 0 4)) (asS (resC y6 0 5)) (asS (resC y6 0 6)) (asI (resC y6 0 7)) (asI (resC y6 0 8)) (asS (resC y6 0 9)) (asI (resC y6 0 10))
    chk (okR zr27 zo27 y10) <|
    if (!(asB (resC y10 0 0))) || (!((asB (resC y9 1 0)) == (asB (resC y6 1 0)))) then
     some ([.one (.b false)], [])
    else
     some ([.one (.b true)], [])
def zr5 : List DV := [.one (.b false)]
def zo5 : List (List D) := []
def A5 : List TA := [.agg [.i .i64, .i .i64, .i .i64, .b, .i .i64, .s, .s, .i .i64, .i .i64, .s, .i .i64], .agg [.i .i64, .s, .s, .i .i64, .i .i64, .s], .one (.i .i64)]
def v5 (vs : List Vr) : Rs := t5 (vI vs 0) (vI vs 1) (vI vs 2) (vB vs 3) (vI vs 4) (vS vs 5) (vS vs 6) (vI vs 7) (vI vs 8) (vS vs 9) (vI vs 10) (vI vs 11) (vS vs 12) (vS vs 13) (vI vs 14) (vI vs 15) (vS vs 16) (vI vs 17)
def g5 (xs : List DV) : Bool × List DV × List (List D) := gOf zr5 zo5 (argsT A5 v5 xs)
end
end Go.Den.L5
