/- What the functions come to, as plain Lean. Printed by tw.py. -/
import Derived.Test.YtkokejemgekfaaaDm7
set_option linter.unusedVariables false
namespace Go.Den.L3
open Go
noncomputable section
@[irreducible] def KK : Nat := 2 ^ 64
def w64 (x : Int) : Int := IntKind.wrap .i64 x
def chk (b : Bool) (x : Rs) : Rs := if b then x else none
def bitAnd (k : IntKind) (a b : Int) : Int := k.wrap (BitVec.ofInt k.bits a &&& BitVec.ofInt k.bits b).toNat
def bitOr (k : IntKind) (a b : Int) : Int := k.wrap (BitVec.ofInt k.bits a ||| BitVec.ofInt k.bits b).toNat
def bitXor (k : IntKind) (a b : Int) : Int := k.wrap (BitVec.ofInt k.bits a ^^^ BitVec.ofInt k.bits b).toNat
def stR (xs : List (List D)) (i off : Nat) (ys : List D) : List (List D) := xs.modify i fun r => r.take off ++ ys ++ r.drop (off + ys.length)
/-- laws.szCall -/
def t23 (n1 : Int) (s2 : ByteArray) (s3 : ByteArray) (n4 : Int) (n5 : Int) (s6 : ByteArray) (n7 : Int) : Rs :=
  let y1 := w64 (n7 - (s2.size : Int))
  if decide (y1 < 0) then
   some ([.one (.i .i64 (-1))], [])
  else
   let y2 := w64 (y1 - (s3.size : Int))
   if decide (y2 < 0) then
    some ([.one (.i .i64 (-1))], [])
   else
    let y3 := w64 (y2 - (s6.size : Int))
    if decide (y3 < 0) then
     some ([.one (.i .i64 (-1))], [])
    else
     some ([.one (.i .i64 y3)], [])
def zr23 : List DV := [.one (.i .i64 0)]
def zo23 : List (List D) := []
def A23 : List TA := [.agg [.i .i64, .s, .s, .i .i64, .i .i64, .s], .one (.i .i64)]
def v23 (vs : List Vr) : Rs := t23 (vI vs 0) (vS vs 1) (vS vs 2) (vI vs 3) (vI vs 4) (vS vs 5) (vI vs 6)
def g23 (xs : List DV) : Bool × List DV × List (List D) := gOf zr23 zo23 (argsT A23 v23 xs)
/-- laws.szSlot -/
def t15 (n1 : Int) (n2 : Int) (n3 : Int) (n4 : Int) (s5 : ByteArray) (s6 : ByteArray) (n7 : Int) (n8 : Int) (s9 : ByteArray) (n10 : Int) : Rs :=
  let y1 := t23 n4 s5 s6 n7 n8 s9 n10
  chk (okR zr23 zo23 y1) <|
  let y2 := asI (resC y1 0 0)
  if decide (y2 < 0) then
   some ([.one (.i .i64 (-1))], [])
  else
   some ([.one (.i .i64 y2)], [])
def zr15 : List DV := [.one (.i .i64 0)]
def zo15 : List (List D) := []
def A15 : List TA := [.agg [.i .i64, .i .i64, .i .i64, .i .i64, .s, .s, .i .i64, .i .i64, .s], .one (.i .i64)]
def v15 (vs : List Vr) : Rs := t15 (vI vs 0) (vI vs 1) (vI vs 2) (vI vs 3) (vS vs 4) (vS vs 5) (vI vs 6) (vI vs 7) (vS vs 8) (vI vs 9)
def g15 (xs : List DV) : Bool × List DV × List (List D) := gOf zr15 zo15 (argsT A15 v15 xs)
/-- laws.toCall -/
def t25 (n1 : Int) (s2 : ByteArray) (s3 : ByteArray) (n4 : Int) (n5 : Int) (s6 : ByteArray) : Rs :=
  some ([.agg [.i .i64 n1, .s s2, .s s3, .i .i64 n4, .i .i64 n5, .s s6]], [])
def zr25 : List DV := [.agg [.i .i64 0, .s ⟨#[]⟩, .s ⟨#[]⟩, .i .i64 0, .i .i64 0, .s ⟨#[]⟩]]
def zo25 : List (List D) := []
def A25 : List TA := [.agg [.i .i64, .s, .s, .i .i64, .i .i64, .s]]
def v25 (vs : List Vr) : Rs := t25 (vI vs 0) (vS vs 1) (vS vs 2) (vI vs 3) (vI vs 4) (vS vs 5)
def g25 (xs : List DV) : Bool × List DV × List (List D) := gOf zr25 zo25 (argsT A25 v25 xs)
/-- laws.toSlot -/
def t17 (n1 : Int) (n2 : Int) (n3 : Int) (n4 : Int) (s5 : ByteArray) (s6 : ByteArray) (n7 : Int) (n8 : Int) (s9 : ByteArray) : Rs :=
  let y1 := t25 n4 s5 s6 n7 n8 s9
  chk (okR zr25 zo25 y1) <|
  some ([.agg [.i .i64 n1, .i .i64 n2, .i .i64 n3, .i .i64 (asI (resC y1 0 0)), .s (asS (resC y1 0 1)), .s (asS (resC y1 0 2)), .i .i64 (asI (resC y1 0 3)), .i .i64 (asI (resC y1 0 4)), .s (asS (resC y1 0 5))]], [])
def zr17 : List DV := [.agg [.i .i64 0, .i .i64 0, .i .i64 0, .i .i64 0, .s ⟨#[]⟩, .s ⟨#[]⟩, .i .i64 0, .i .i64 0, .s ⟨#[]⟩]]
def zo17 : List (List D) := []
def A17 : List TA := [.agg [.i .i64, .i .i64, .i .i64, .i .i64, .s, .s, .i .i64, .i .i64, .s]]
def v17 (vs : List Vr) : Rs := t17 (vI vs 0) (vI vs 1) (vI vs 2) (vI vs 3) (vS vs 4) (vS vs 5) (vI vs 6) (vI vs 7) (vS vs 8)
def g17 (xs : List DV) : Bool × List DV × List (List D) := gOf zr17 zo17 (argsT A17 v17 xs)
/-- spec.l1In -/
def t60 (n1 : Int) (n2 : Int) (n3 : Int) : Rs :=
  some ([.one (.b ((decide (n1 ≥ n2)) && (decide (n1 ≤ n3))))], [])
def zr60 : List DV := [.one (.b false)]
def zo60 : List (List D) := []
def A60 : List TA := [.one (.i .i64), .one (.i .i64), .one (.i .i64)]
def v60 (vs : List Vr) : Rs := t60 (vI vs 0) (vI vs 1) (vI vs 2)
def g60 (xs : List DV) : Bool × List DV × List (List D) := gOf zr60 zo60 (argsT A60 v60 xs)
/-- spec.CallOk -/
def t61 (n1 : Int) (s2 : ByteArray) (s3 : ByteArray) (n4 : Int) (n5 : Int) (s6 : ByteArray) : Rs :=
  let y1 := t60 n1 1 22
  chk (okR zr60 zo60 y1) <|
  let y2 := t60 n4 (-1000000) 1000000
  let y3 := (((!(asB (resC y1 0 0))) || (decide ((s2.size : Int) > 60))) || (decide ((s3.size : Int) > 60))) || (decide ((s6.size : Int) > 64))
  chk ((okR zr60 zo60 y2) || !(!y3)) <|
  let y4 := t60 n5 (-1000000) 1000000
  let y5 := y3 || (!(asB (resC y2 0 0)))
  chk ((okR zr60 zo60 y4) || !(!y5)) <|
  if y5 || (!(asB (resC y4 0 0))) then
   some ([.one (.b false)], [])
  else
   if (((!(s3.toList == (⟨#[]⟩ : ByteArray).toList)) && (n1 != 9)) && (n1 != 10)) && (n1 != 12) then
    some ([.one (.b false)], [])
   else
    some ([.one (.b (((s6.toList == (⟨#[]⟩ : ByteArray).toList) || (n1 == 5)) || (n1 == 6)))], [])
def zr61 : List DV := [.one (.b false)]
def zo61 : List (List D) := []
def A61 : List TA := [.agg [.i .i64, .s, .s, .i .i64, .i .i64, .s]]
def v61 (vs : List Vr) : Rs := t61 (vI vs 0) (vS vs 1) (vS vs 2) (vI vs 3) (vI vs 4) (vS vs 5)
def g61 (xs : List DV) : Bool × List DV × List (List D) := gOf zr61 zo61 (argsT A61 v61 xs)
/-- spec.SlotOk -/
def t16 (n1 : Int) (n2 : Int) (n3 : Int) (n4 : Int) (s5 : ByteArray) (s6 : ByteArray) (n7 : Int) (n8 : Int) (s9 : ByteArray) : Rs :=
  chk (okR zr60 zo60 (t60 n1 0 2)) <|
  let y1 := asB (resC (t60 n1 0 2) 0 0)
  chk ((okR zr60 zo60 (t60 n2 1 3)) || !y1) <|
  let y2 := t60 n3 1 1000000
  let y3 := y1 && (asB (resC (t60 n2 1 3) 0 0))
  chk ((okR zr60 zo60 y2) || !y3) <|
  let y4 := t61 n4 s5 s6 n7 n8 s9
  let y5 := y3 && (asB (resC y2 0 0))
  chk ((okR zr61 zo61 y4) || !y5) <|
  some ([.one (.b (y5 && (asB (resC y4 0 0))))], [])
def zr16 : List DV := [.one (.b false)]
def zo16 : List (List D) := []
def A16 : List TA := [.agg [.i .i64, .i .i64, .i .i64, .i .i64, .s, .s, .i .i64, .i .i64, .s]]
def v16 (vs : List Vr) : Rs := t16 (vI vs 0) (vI vs 1) (vI vs 2) (vI vs 3) (vS vs 4) (vS vs 5) (vI vs 6) (vI vs 7) (vS vs 8)
def g16 (xs : List DV) : Bool × List DV × List (List D) := gOf zr16 zo16 (argsT A16 v16 xs)
/-- impl.within -/
def t62 (n1 : Int) (n2 : Int) (n3 : Int) : Rs :=
  some ([.one (.b ((decide (n1 ≥ n2)) && (decide (n1 ≤ n3))))], [])
def zr62 : List DV := [.one (.b false)]
def zo62 : List (List D) := []
def A62 : List TA := [.one (.i .i64), .one (.i .i64), .one (.i .i64)]
def v62 (vs : List Vr) : Rs := t62 (vI vs 0) (vI vs 1) (vI vs 2)
def g62 (xs : List DV) : Bool × List DV × List (List D) := gOf zr62 zo62 (argsT A62 v62 xs)
/-- impl.CallOk -/
def t63 (n1 : Int) (s2 : ByteArray) (s3 : ByteArray) (n4 : Int) (n5 : Int) (s6 : ByteArray) : Rs :=
  if ((!(((n1 == 9) || (n1 == 10)) || (n1 == 12))) && (!(s3.toList == (⟨#[]⟩ : ByteArray).toList))) || ((!((n1 == 5) || (n1 == 6))) && (!(s6.toList == (⟨#[]⟩ : ByteArray).toList))) then
   some ([.one (.b false)], [])
  else
   let y1 := t62 n1 1 22
   chk (okR zr62 zo62 y1) <|
   let y2 := t62 n4 (-1000000) 1000000
   let y3 := (((asB (resC y1 0 0)) && (decide ((s2.size : Int) ≤ 60))) && (decide ((s3.size : Int) ≤ 60))) && (decide ((s6.size : Int) ≤ 64))
   chk ((okR zr62 zo62 y2) || !y3) <|
   let y4 := t62 n5 (-1000000) 1000000
   let y5 := y3 && (asB (resC y2 0 0))
   chk ((okR zr62 zo62 y4) || !y5) <|
   some ([.one (.b (y5 && (asB (resC y4 0 0))))], [])
def zr63 : List DV := [.one (.b false)]
def zo63 : List (List D) := []
def A63 : List TA := [.agg [.i .i64, .s, .s, .i .i64, .i .i64, .s]]
def v63 (vs : List Vr) : Rs := t63 (vI vs 0) (vS vs 1) (vS vs 2) (vI vs 3) (vI vs 4) (vS vs 5)
def g63 (xs : List DV) : Bool × List DV × List (List D) := gOf zr63 zo63 (argsT A63 v63 xs)
/-- impl.SlotOk -/
def t18 (n1 : Int) (n2 : Int) (n3 : Int) (n4 : Int) (s5 : ByteArray) (s6 : ByteArray) (n7 : Int) (n8 : Int) (s9 : ByteArray) : Rs :=
  chk (okR zr62 zo62 (t62 n1 0 2)) <|
  let y1 := asB (resC (t62 n1 0 2) 0 0)
  chk ((okR zr62 zo62 (t62 n2 1 3)) || !y1) <|
  let y2 := t62 n3 1 1000000
  let y3 := y1 && (asB (resC (t62 n2 1 3) 0 0))
  chk ((okR zr62 zo62 y2) || !y3) <|
  let y4 := t63 n4 s5 s6 n7 n8 s9
  let y5 := y3 && (asB (resC y2 0 0))
  chk ((okR zr63 zo63 y4) || !y5) <|
  some ([.one (.b (y5 && (asB (resC y4 0 0))))], [])
def zr18 : List DV := [.one (.b false)]
def zo18 : List (List D) := []
def A18 : List TA := [.agg [.i .i64, .i .i64, .i .i64, .i .i64, .s, .s, .i .i64, .i .i64, .s]]
def v18 (vs : List Vr) : Rs := t18 (vI vs 0) (vI vs 1) (vI vs 2) (vI vs 3) (vS vs 4) (vS vs 5) (vI vs 6) (vI vs 7) (vS vs 8)
def g18 (xs : List DV) : Bool × List DV × List (List D) := gOf zr18 zo18 (argsT A18 v18 xs)
/-- laws.FnExactSlotOk -/
def t3 (n1 : Int) (n2 : Int) (n3 : Int) (n4 : Int) (s5 : ByteArray) (s6 : ByteArray) (n7 : Int) (n8 : Int) (s9 : ByteArray) : Rs :=
  let y1 := t15 n1 n2 n3 n4 s5 s6 n7 n8 s9 1048576
  chk (okR zr15 zo15 y1) <|
  if decide ((asI (resC y1 0 0)) < 0) then
   some ([.one (.b true)], [])
  else
   let y2 := t17 n1 n2 n3 n4 s5 s6 n7 n8 s9
   chk (okR zr17 zo17 y2) <|
   let y3 := t16 (asI (resC y2 0 0)) (asI (resC y2 0 1)) (asI (resC y2 0 2)) (asI (resC y2 0 3)) (asS (resC y2 0 4)) (asS (resC y2 0 5)) (asI (resC y2 0 6)) (asI (resC y2 0 7)) (asS (resC y2 0 8))
   chk (okR zr16 zo16 y3) <|
   let y4 := t17 n1 n2 n3 n4 s5 s6 n7 n8 s9
   chk (okR zr17 zo17 y4) <|
   let y5 := t18 (asI (resC y4 0 0)) (asI (resC y4 0 1)) (asI (resC y4 0 2)) (asI (resC y4 0 3)) (asS (resC y4 0 4)) (asS (resC y4 0 5)) (asI (resC y4 0 6)) (asI (resC y4 0 7)) (asS (resC y4 0 8))
   chk (okR zr18 zo18 y5) <|
   if !((asB (resC y5 0 0)) == (asB (resC y3 0 0))) then
    some ([.one (.b false)], [])
   else
    some ([.one (.b true)], [])
def zr3 : List DV := [.one (.b false)]
def zo3 : List (List D) := []
def A3 : List TA := [.agg [.i .i64, .i .i64, .i .i64, .i .i64, .s, .s, .i .i64, .i .i64, .s]]
def v3 (vs : List Vr) : Rs := t3 (vI vs 0) (vI vs 1) (vI vs 2) (vI vs 3) (vS vs 4) (vS vs 5) (vI vs 6) (vI vs 7) (vS vs 8)
def g3 (xs : List DV) : Bool × List DV × List (List D) := gOf zr3 zo3 (argsT A3 v3 xs)
end
end Go.Den.L3
