/- What the functions come to, as plain Lean. Printed by tw.py. -/
import Derived.Test.YtkokejemgekfaaaDm7
set_option linter.unusedVariables false
namespace Go.Den.L7
open Go
noncomputable section
/-- The rounds that a loop is given: 2 ^ 64; so laid that nothing unfolds it. -/
noncomputable def KK : Nat := Classical.choose (⟨2 ^ 64, rfl⟩ : ∃ n : Nat, n = 2 ^ 64)
def w64 (x : Int) : Int := IntKind.wrap .i64 x
def chk (b : Bool) (x : Rs) : Rs := if b then x else none
def bitAnd (k : IntKind) (a b : Int) : Int := k.wrap (BitVec.ofInt k.bits a &&& BitVec.ofInt k.bits b).toNat
def bitOr (k : IntKind) (a b : Int) : Int := k.wrap (BitVec.ofInt k.bits a ||| BitVec.ofInt k.bits b).toNat
def bitXor (k : IntKind) (a b : Int) : Int := k.wrap (BitVec.ofInt k.bits a ^^^ BitVec.ofInt k.bits b).toNat
def stR (xs : List (List D)) (i off : Nat) (ys : List D) : List (List D) := xs.modify i fun r => r.take off ++ ys ++ r.drop (off + ys.length)
def z3 : List D := [.i .i64 0]
/-- laws.szCall -/
def t23 (n1 : Int) (s2 : ByteArray) (s3 : ByteArray) (n4 : Int) (n5 : Int) (s6 : ByteArray) (n7 : Int) : Rs :=
  let y1 := w64 (n7 - (s2.size : Int))
  if decide (y1 < 0) then
   some ([.one (.i .i64 (-1))], [])
  else
   let y2 := w64 (y1 - (s3.size : Int))
   if decide (y2 < 0) then
    some ([.one (.i .i64 (-1))], [])
   else
    let y3 := w64 (y2 - (s6.size : Int))
    if decide (y3 < 0) then
     some ([.one (.i .i64 (-1))], [])
    else
     some ([.one (.i .i64 y3)], [])
def zr23 : List DV := [.one (.i .i64 0)]
def zo23 : List (List D) := []
def A23 : List TA := [.agg [.i .i64, .s, .s, .i .i64, .i .i64, .s], .one (.i .i64)]
def v23 (vs : List Vr) : Rs := t23 (vI vs 0) (vS vs 1) (vS vs 2) (vI vs 3) (vI vs 4) (vS vs 5) (vI vs 6)
def g23 (xs : List DV) : Bool × List DV × List (List D) := gOf zr23 zo23 (argsT A23 v23 xs)
/-- laws.szClient -/
def t19 (n1 : Int) (n2 : Int) (n3 : Int) (b4 : Bool) (n5 : Int) (s6 : ByteArray) (s7 : ByteArray) (n8 : Int) (n9 : Int) (s10 : ByteArray) (n11 : Int) (n12 : Int) : Rs :=
  let y1 := t23 n5 s6 s7 n8 n9 s10 n12
  chk (okR zr23 zo23 y1) <|
  let y2 := asI (resC y1 0 0)
  if decide (y2 < 0) then
   some ([.one (.i .i64 (-1))], [])
  else
   some ([.one (.i .i64 y2)], [])
def zr19 : List DV := [.one (.i .i64 0)]
def zo19 : List (List D) := []
def A19 : List TA := [.agg [.i .i64, .i .i64, .i .i64, .b, .i .i64, .s, .s, .i .i64, .i .i64, .s, .i .i64], .one (.i .i64)]
def v19 (vs : List Vr) : Rs := t19 (vI vs 0) (vI vs 1) (vI vs 2) (vB vs 3) (vI vs 4) (vS vs 5) (vS vs 6) (vI vs 7) (vI vs 8) (vS vs 9) (vI vs 10) (vI vs 11)
def g19 (xs : List DV) : Bool × List DV × List (List D) := gOf zr19 zo19 (argsT A19 v19 xs)
/-- laws.toCall -/
def t25 (n1 : Int) (s2 : ByteArray) (s3 : ByteArray) (n4 : Int) (n5 : Int) (s6 : ByteArray) : Rs :=
  some ([.agg [.i .i64 n1, .s s2, .s s3, .i .i64 n4, .i .i64 n5, .s s6]], [])
def zr25 : List DV := [.agg [.i .i64 0, .s ⟨#[]⟩, .s ⟨#[]⟩, .i .i64 0, .i .i64 0, .s ⟨#[]⟩]]
def zo25 : List (List D) := []
def A25 : List TA := [.agg [.i .i64, .s, .s, .i .i64, .i .i64, .s]]
def v25 (vs : List Vr) : Rs := t25 (vI vs 0) (vS vs 1) (vS vs 2) (vI vs 3) (vI vs 4) (vS vs 5)
def g25 (xs : List DV) : Bool × List DV × List (List D) := gOf zr25 zo25 (argsT A25 v25 xs)
/-- laws.toClient -/
def t21 (n1 : Int) (n2 : Int) (n3 : Int) (b4 : Bool) (n5 : Int) (s6 : ByteArray) (s7 : ByteArray) (n8 : Int) (n9 : Int) (s10 : ByteArray) (n11 : Int) : Rs :=
  let y1 := t25 n5 s6 s7 n8 n9 s10
  chk (okR zr25 zo25 y1) <|
  some ([.agg [.i .i64 n1, .i .i64 n2, .i .i64 n3, .b b4, .i .i64 (asI (resC y1 0 0)), .s (asS (resC y1 0 1)), .s (asS (resC y1 0 2)), .i .i64 (asI (resC y1 0 3)), .i .i64 (asI (resC y1 0 4)), .s (asS (resC y1 0 5)), .i .i64 n11]], [])
def zr21 : List DV := [.agg [.i .i64 0, .i .i64 0, .i .i64 0, .b false, .i .i64 0, .s ⟨#[]⟩, .s ⟨#[]⟩, .i .i64 0, .i .i64 0, .s ⟨#[]⟩, .i .i64 0]]
def zo21 : List (List D) := []
def A21 : List TA := [.agg [.i .i64, .i .i64, .i .i64, .b, .i .i64, .s, .s, .i .i64, .i .i64, .s, .i .i64]]
def v21 (vs : List Vr) : Rs := t21 (vI vs 0) (vI vs 1) (vI vs 2) (vB vs 3) (vI vs 4) (vS vs 5) (vS vs 6) (vI vs 7) (vI vs 8) (vS vs 9) (vI vs 10)
def g21 (xs : List DV) : Bool × List DV × List (List D) := gOf zr21 zo21 (argsT A21 v21 xs)
/-- spec.l15Tenant -/
def t64 (n1 : Int) : Rs :=
  some ([.one (.b ((decide (n1 ≥ 0)) && (decide (n1 < 3))))], [])
def zr64 : List DV := [.one (.b false)]
def zo64 : List (List D) := []
def A64 : List TA := [.one (.i .i64)]
def v64 (vs : List Vr) : Rs := t64 (vI vs 0)
def g64 (xs : List DV) : Bool × List DV × List (List D) := gOf zr64 zo64 (argsT A64 v64 xs)
/-- spec.l1In -/
def t60 (n1 : Int) (n2 : Int) (n3 : Int) : Rs :=
  some ([.one (.b ((decide (n1 ≥ n2)) && (decide (n1 ≤ n3))))], [])
def zr60 : List DV := [.one (.b false)]
def zo60 : List (List D) := []
def A60 : List TA := [.one (.i .i64), .one (.i .i64), .one (.i .i64)]
def v60 (vs : List Vr) : Rs := t60 (vI vs 0) (vI vs 1) (vI vs 2)
def g60 (xs : List DV) : Bool × List DV × List (List D) := gOf zr60 zo60 (argsT A60 v60 xs)
/-- spec.CallOk -/
def t61 (n1 : Int) (s2 : ByteArray) (s3 : ByteArray) (n4 : Int) (n5 : Int) (s6 : ByteArray) : Rs :=
  let y1 := t60 n1 1 22
  chk (okR zr60 zo60 y1) <|
  let y2 := t60 n4 (-1000000) 1000000
  let y3 := (((!(asB (resC y1 0 0))) || (decide ((s2.size : Int) > 60))) || (decide ((s3.size : Int) > 60))) || (decide ((s6.size : Int) > 64))
  chk ((okR zr60 zo60 y2) || !(!y3)) <|
  let y4 := t60 n5 (-1000000) 1000000
  let y5 := y3 || (!(asB (resC y2 0 0)))
  chk ((okR zr60 zo60 y4) || !(!y5)) <|
  if y5 || (!(asB (resC y4 0 0))) then
   some ([.one (.b false)], [])
  else
   if (((!(s3.toList == (⟨#[]⟩ : ByteArray).toList)) && (n1 != 9)) && (n1 != 10)) && (n1 != 12) then
    some ([.one (.b false)], [])
   else
    some ([.one (.b (((s6.toList == (⟨#[]⟩ : ByteArray).toList) || (n1 == 5)) || (n1 == 6)))], [])
def zr61 : List DV := [.one (.b false)]
def zo61 : List (List D) := []
def A61 : List TA := [.agg [.i .i64, .s, .s, .i .i64, .i .i64, .s]]
def v61 (vs : List Vr) : Rs := t61 (vI vs 0) (vS vs 1) (vS vs 2) (vI vs 3) (vI vs 4) (vS vs 5)
def g61 (xs : List DV) : Bool × List DV × List (List D) := gOf zr61 zo61 (argsT A61 v61 xs)
/-- spec.ClientOk -/
def t20 (n1 : Int) (n2 : Int) (n3 : Int) (b4 : Bool) (n5 : Int) (s6 : ByteArray) (s7 : ByteArray) (n8 : Int) (n9 : Int) (s10 : ByteArray) (n11 : Int) : Rs :=
  chk (okR zr64 zo64 (t64 n1)) <|
  let y1 := !(asB (resC (t64 n1) 0 0))
  chk ((okR zr60 zo60 (t60 n2 1 3)) || !(!y1)) <|
  let y2 := t60 n3 0 1000000
  let y3 := y1 || (!(asB (resC (t60 n2 1 3) 0 0)))
  chk ((okR zr60 zo60 y2) || !(!y3)) <|
  let y4 := t60 n11 0 1000000
  let y5 := y3 || (!(asB (resC y2 0 0)))
  chk ((okR zr60 zo60 y4) || !(!y5)) <|
  if y5 || (!(asB (resC y4 0 0))) then
   some ([.one (.b false)], [])
  else
   if b4 then
    let y6 := t61 n5 s6 s7 n8 n9 s10
    let y7 := decide (n3 ≥ 1)
    chk ((okR zr61 zo61 y6) || !y7) <|
    some ([.one (.b (y7 && (asB (resC y6 0 0))))], [])
   else
    some ([.one (.b (((n5 == 0) && ((s6.toList == (⟨#[]⟩ : ByteArray).toList) && ((s7.toList == (⟨#[]⟩ : ByteArray).toList) && ((n8 == 0) && ((n9 == 0) && ((s10.toList == (⟨#[]⟩ : ByteArray).toList) && true)))))) && (n11 == 0)))], [])
def zr20 : List DV := [.one (.b false)]
def zo20 : List (List D) := []
def A20 : List TA := [.agg [.i .i64, .i .i64, .i .i64, .b, .i .i64, .s, .s, .i .i64, .i .i64, .s, .i .i64]]
def v20 (vs : List Vr) : Rs := t20 (vI vs 0) (vI vs 1) (vI vs 2) (vB vs 3) (vI vs 4) (vS vs 5) (vS vs 6) (vI vs 7) (vI vs 8) (vS vs 9) (vI vs 10)
def g20 (xs : List DV) : Bool × List DV × List (List D) := gOf zr20 zo20 (argsT A20 v20 xs)
def l89o1 (s7 : ByteArray) (b8 : Bool) (q1 : Int → Bool → List (List D) → Rs) : Nat → Int → SV → List (List D) → Rs
  | 0, _, _, _ => none
  | m + 1, n6, v9, l10 =>
    let y1 := decide (n6 ≥ 128)
    if y1 then
     let y2 := ([[.i .u8 (IntKind.wrap .u8 (w64 (128 + (n6.tmod 128))))]] : List (List D))
     chk ((flatR 1 y2) && decide (l10.length + y2.length ≤ lim)) <|
     l89o1 s7 b8 q1 m (w64 (n6.tdiv 128)) (.d (.b y1)) (l10 ++ y2)
    else
     q1 n6 y1 l10
/-- spec.Var -/
def t89 (n1 : Int) : Rs :=
  let y1 := t60 n1 0 562949953421311
  chk (okR zr60 zo60 y1) <|
  let y2 := !(asB (resC y1 0 0))
  if y2 then
   some ([.one (.s (⟨#[]⟩ : ByteArray))], [])
  else
   l89o1 (⟨#[]⟩ : ByteArray) y2
    (fun (n19 : Int) (b20 : Bool) (l21 : List (List D)) =>
     let y3 := ([[.i .u8 (IntKind.wrap .u8 n19)]] : List (List D))
     chk ((flatR 1 y3) && decide (l21.length + y3.length ≤ lim)) <|
     let y4 := l21 ++ y3
     chk (isBytes y4) <|
     some ([.one (.s ⟨(bytesD y4).toArray⟩)], [])) KK n1 SV.undef ([] : List (List D))
def zr89 : List DV := [.one (.s ⟨#[]⟩)]
def zo89 : List (List D) := []
def A89 : List TA := [.one (.i .i64)]
def v89 (vs : List Vr) : Rs := t89 (vI vs 0)
def g89 (xs : List DV) : Bool × List DV × List (List D) := gOf zr89 zo89 (argsT A89 v89 xs)
/-- spec.l8Piece -/
def t110 (s1 : ByteArray) : Rs :=
  let y1 := t89 (s1.size : Int)
  chk (okR zr89 zo89 y1) <|
  let y2 := asS (resC y1 0 0)
  chk (decide (y2.size + s1.size ≤ lim)) <|
  some ([.one (.s (y2 ++ s1))], [])
def zr110 : List DV := [.one (.s ⟨#[]⟩)]
def zo110 : List (List D) := []
def A110 : List TA := [.one (.s)]
def v110 (vs : List Vr) : Rs := t110 (vS vs 0)
def g110 (xs : List DV) : Bool × List DV × List (List D) := gOf zr110 zo110 (argsT A110 v110 xs)
/-- spec.l8Signed -/
def t111 (n1 : Int) : Rs :=
  if decide (n1 < 0) then
   let y1 := t89 (w64 ((w64 ((-2) * n1)) - 1))
   chk (okR zr89 zo89 y1) <|
   some ([.one (.s (asS (resC y1 0 0)))], [])
  else
   let y2 := t89 (w64 (2 * n1))
   chk (okR zr89 zo89 y2) <|
   some ([.one (.s (asS (resC y2 0 0)))], [])
def zr111 : List DV := [.one (.s ⟨#[]⟩)]
def zo111 : List (List D) := []
def A111 : List TA := [.one (.i .i64)]
def v111 (vs : List Vr) : Rs := t111 (vI vs 0)
def g111 (xs : List DV) : Bool × List DV × List (List D) := gOf zr111 zo111 (argsT A111 v111 xs)
/-- spec.ShowCall -/
def t69 (n1 : Int) (s2 : ByteArray) (s3 : ByteArray) (n4 : Int) (n5 : Int) (s6 : ByteArray) : Rs :=
  let y1 := t61 n1 s2 s3 n4 n5 s6
  chk (okR zr61 zo61 y1) <|
  if !(asB (resC y1 0 0)) then
   some ([.one (.s (⟨#[]⟩ : ByteArray))], [])
  else
   chk (okR zr89 zo89 (t89 n1)) <|
   chk (okR zr110 zo110 (t110 s2)) <|
   let y2 := asS (resC (t89 n1) 0 0)
   let y3 := asS (resC (t110 s2) 0 0)
   chk (decide (y2.size + y3.size ≤ lim)) <|
   chk (okR zr110 zo110 (t110 s3)) <|
   let y4 := y2 ++ y3
   let y5 := asS (resC (t110 s3) 0 0)
   chk (decide (y4.size + y5.size ≤ lim)) <|
   chk (okR zr111 zo111 (t111 n4)) <|
   let y6 := y4 ++ y5
   let y7 := asS (resC (t111 n4) 0 0)
   chk (decide (y6.size + y7.size ≤ lim)) <|
   chk (okR zr111 zo111 (t111 n5)) <|
   let y8 := y6 ++ y7
   let y9 := asS (resC (t111 n5) 0 0)
   chk (decide (y8.size + y9.size ≤ lim)) <|
   chk (okR zr110 zo110 (t110 s6)) <|
   let y10 := y8 ++ y9
   let y11 := asS (resC (t110 s6) 0 0)
   chk (decide (y10.size + y11.size ≤ lim)) <|
   some ([.one (.s (y10 ++ y11))], [])
def zr69 : List DV := [.one (.s ⟨#[]⟩)]
def zo69 : List (List D) := []
def A69 : List TA := [.agg [.i .i64, .s, .s, .i .i64, .i .i64, .s]]
def v69 (vs : List Vr) : Rs := t69 (vI vs 0) (vS vs 1) (vS vs 2) (vI vs 3) (vI vs 4) (vS vs 5)
def g69 (xs : List DV) : Bool × List DV × List (List D) := gOf zr69 zo69 (argsT A69 v69 xs)
/-- spec.ClientSay -/
def t33 (n1 : Int) (n2 : Int) (n3 : Int) (b4 : Bool) (n5 : Int) (s6 : ByteArray) (s7 : ByteArray) (n8 : Int) (n9 : Int) (s10 : ByteArray) (n11 : Int) (n12 : Int) : Rs :=
  let y1 := t20 n1 n2 n3 b4 n5 s6 s7 n8 n9 s10 n11
  chk (okR zr20 zo20 y1) <|
  if (((!(asB (resC y1 0 0))) || (!b4)) || (decide (n12 < 0))) || (decide (n12 ≥ 5)) then
   some ([.agg [.i .i64 0, .i .i64 0, .i .i64 0, .b false, .i .i64 0, .s (⟨#[]⟩ : ByteArray)], .one (.b false)], [])
  else
   let y2 := t69 n5 s6 s7 n8 n9 s10
   chk (okR zr69 zo69 y2) <|
   some ([.agg [.i .i64 n1, .i .i64 n2, .i .i64 n12, .b false, .i .i64 n3, .s (asS (resC y2 0 0))], .one (.b true)], [])
def zr33 : List DV := [.agg [.i .i64 0, .i .i64 0, .i .i64 0, .b false, .i .i64 0, .s ⟨#[]⟩], .one (.b false)]
def zo33 : List (List D) := []
def A33 : List TA := [.agg [.i .i64, .i .i64, .i .i64, .b, .i .i64, .s, .s, .i .i64, .i .i64, .s, .i .i64], .one (.i .i64)]
def v33 (vs : List Vr) : Rs := t33 (vI vs 0) (vI vs 1) (vI vs 2) (vB vs 3) (vI vs 4) (vS vs 5) (vS vs 6) (vI vs 7) (vI vs 8) (vS vs 9) (vI vs 10) (vI vs 11)
def g33 (xs : List DV) : Bool × List DV × List (List D) := gOf zr33 zo33 (argsT A33 v33 xs)
/-- impl.within -/
def t62 (n1 : Int) (n2 : Int) (n3 : Int) : Rs :=
  some ([.one (.b ((decide (n1 ≥ n2)) && (decide (n1 ≤ n3))))], [])
def zr62 : List DV := [.one (.b false)]
def zo62 : List (List D) := []
def A62 : List TA := [.one (.i .i64), .one (.i .i64), .one (.i .i64)]
def v62 (vs : List Vr) : Rs := t62 (vI vs 0) (vI vs 1) (vI vs 2)
def g62 (xs : List DV) : Bool × List DV × List (List D) := gOf zr62 zo62 (argsT A62 v62 xs)
/-- impl.CallOk -/
def t63 (n1 : Int) (s2 : ByteArray) (s3 : ByteArray) (n4 : Int) (n5 : Int) (s6 : ByteArray) : Rs :=
  if ((!(((n1 == 9) || (n1 == 10)) || (n1 == 12))) && (!(s3.toList == (⟨#[]⟩ : ByteArray).toList))) || ((!((n1 == 5) || (n1 == 6))) && (!(s6.toList == (⟨#[]⟩ : ByteArray).toList))) then
   some ([.one (.b false)], [])
  else
   let y1 := t62 n1 1 22
   chk (okR zr62 zo62 y1) <|
   let y2 := t62 n4 (-1000000) 1000000
   let y3 := (((asB (resC y1 0 0)) && (decide ((s2.size : Int) ≤ 60))) && (decide ((s3.size : Int) ≤ 60))) && (decide ((s6.size : Int) ≤ 64))
   chk ((okR zr62 zo62 y2) || !y3) <|
   let y4 := t62 n5 (-1000000) 1000000
   let y5 := y3 && (asB (resC y2 0 0))
   chk ((okR zr62 zo62 y4) || !y5) <|
   some ([.one (.b (y5 && (asB (resC y4 0 0))))], [])
def zr63 : List DV := [.one (.b false)]
def zo63 : List (List D) := []
def A63 : List TA := [.agg [.i .i64, .s, .s, .i .i64, .i .i64, .s]]
def v63 (vs : List Vr) : Rs := t63 (vI vs 0) (vS vs 1) (vS vs 2) (vI vs 3) (vI vs 4) (vS vs 5)
def g63 (xs : List DV) : Bool × List DV × List (List D) := gOf zr63 zo63 (argsT A63 v63 xs)
/-- impl.ClientOk -/
def t22 (n1 : Int) (n2 : Int) (n3 : Int) (b4 : Bool) (n5 : Int) (s6 : ByteArray) (s7 : ByteArray) (n8 : Int) (n9 : Int) (s10 : ByteArray) (n11 : Int) : Rs :=
  chk (okR zr62 zo62 (t62 n1 0 2)) <|
  let y1 := !(asB (resC (t62 n1 0 2) 0 0))
  chk ((okR zr62 zo62 (t62 n2 1 3)) || !(!y1)) <|
  let y2 := t62 n3 0 1000000
  let y3 := y1 || (!(asB (resC (t62 n2 1 3) 0 0)))
  chk ((okR zr62 zo62 y2) || !(!y3)) <|
  let y4 := t62 n11 0 1000000
  let y5 := y3 || (!(asB (resC y2 0 0)))
  chk ((okR zr62 zo62 y4) || !(!y5)) <|
  if y5 || (!(asB (resC y4 0 0))) then
   some ([.one (.b false)], [])
  else
   if b4 then
    let y6 := t63 n5 s6 s7 n8 n9 s10
    let y7 := decide (n3 ≥ 1)
    chk ((okR zr63 zo63 y6) || !y7) <|
    some ([.one (.b (y7 && (asB (resC y6 0 0))))], [])
   else
    some ([.one (.b (((n5 == 0) && ((s6.toList == (⟨#[]⟩ : ByteArray).toList) && ((s7.toList == (⟨#[]⟩ : ByteArray).toList) && ((n8 == 0) && ((n9 == 0) && ((s10.toList == (⟨#[]⟩ : ByteArray).toList) && true)))))) && (n11 == 0)))], [])
def zr22 : List DV := [.one (.b false)]
def zo22 : List (List D) := []
def A22 : List TA := [.agg [.i .i64, .i .i64, .i .i64, .b, .i .i64, .s, .s, .i .i64, .i .i64, .s, .i .i64]]
def v22 (vs : List Vr) : Rs := t22 (vI vs 0) (vI vs 1) (vI vs 2) (vB vs 3) (vI vs 4) (vS vs 5) (vS vs 6) (vI vs 7) (vI vs 8) (vS vs 9) (vI vs 10)
def g22 (xs : List DV) : Bool × List DV × List (List D) := gOf zr22 zo22 (argsT A22 v22 xs)
def l91o1 (s7 : ByteArray) (b8 : Bool) (q1 : Int → Bool → List (List D) → Rs) : Nat → Int → SV → List (List D) → Rs
  | 0, _, _, _ => none
  | m + 1, n6, v9, l10 =>
    let y1 := decide (n6 > 127)
    if y1 then
     let y2 := ([[.i .u8 (IntKind.wrap .u8 (bitOr .i64 (bitAnd .i64 n6 127) 128))]] : List (List D))
     chk ((flatR 1 y2) && decide (l10.length + y2.length ≤ lim)) <|
     l91o1 s7 b8 q1 m (n6.fdiv (2 ^ (min (7 : Int).toNat (IntKind.bits .i64)))) (.d (.b y1)) (l10 ++ y2)
    else
     q1 n6 y1 l10
/-- impl.Var -/
def t91 (n1 : Int) : Rs :=
  let y1 := t62 n1 0 562949953421311
  chk (okR zr62 zo62 y1) <|
  let y2 := !(asB (resC y1 0 0))
  if y2 then
   some ([.one (.s (⟨#[]⟩ : ByteArray))], [])
  else
   l91o1 (⟨#[]⟩ : ByteArray) y2
    (fun (n19 : Int) (b20 : Bool) (l21 : List (List D)) =>
     let y3 := ([[.i .u8 (IntKind.wrap .u8 n19)]] : List (List D))
     chk ((flatR 1 y3) && decide (l21.length + y3.length ≤ lim)) <|
     let y4 := l21 ++ y3
     chk (isBytes y4) <|
     some ([.one (.s ⟨(bytesD y4).toArray⟩)], [])) KK n1 SV.undef ([] : List (List D))
def zr91 : List DV := [.one (.s ⟨#[]⟩)]
def zo91 : List (List D) := []
def A91 : List TA := [.one (.i .i64)]
def v91 (vs : List Vr) : Rs := t91 (vI vs 0)
def g91 (xs : List DV) : Bool × List DV × List (List D) := gOf zr91 zo91 (argsT A91 v91 xs)
/-- impl.piece -/
def t83 (s1 : ByteArray) : Rs :=
  let y1 := t91 (s1.size : Int)
  chk (okR zr91 zo91 y1) <|
  let y2 := asS (resC y1 0 0)
  chk (decide (y2.size + s1.size ≤ lim)) <|
  some ([.one (.s (y2 ++ s1))], [])
def zr83 : List DV := [.one (.s ⟨#[]⟩)]
def zo83 : List (List D) := []
def A83 : List TA := [.one (.s)]
def v83 (vs : List Vr) : Rs := t83 (vS vs 0)
def g83 (xs : List DV) : Bool × List DV × List (List D) := gOf zr83 zo83 (argsT A83 v83 xs)
/-- impl.signed -/
def t112 (n1 : Int) : Rs :=
  if decide (n1 < 0) then
   some ([.one (.i .i64 (w64 ((w64 ((-2) * n1)) - 1)))], [])
  else
   some ([.one (.i .i64 (w64 (2 * n1)))], [])
def zr112 : List DV := [.one (.i .i64 0)]
def zo112 : List (List D) := []
def A112 : List TA := [.one (.i .i64)]
def v112 (vs : List Vr) : Rs := t112 (vI vs 0)
def g112 (xs : List DV) : Bool × List DV × List (List D) := gOf zr112 zo112 (argsT A112 v112 xs)
def l82o0 (l8 : List (List D)) (s9 : ByteArray) (l12 : List (List D)) (n13 : Int) (q1 : ByteArray → SV → Int → Bool → Rs) : Nat → ByteArray → SV → Int → SV → Rs
  | 0, _, _, _, _ => none
  | m + 1, s10, v11, n14, v15 =>
    let y1 := decide (n14 < n13)
    if y1 then
     let y2 := l12.getD n14.toNat []
     chk (decide (0 ≤ n14) && decide (n14 < l12.length) && isRow z3 y2) <|
     let y3 := asI (nthD y2 0)
     let y4 := t91 y3
     chk (okR zr91 zo91 y4) <|
     let y5 := asS (resC y4 0 0)
     chk (decide (s10.size + y5.size ≤ lim)) <|
     l82o0 l8 s9 l12 n13 q1 m (s10 ++ y5) (.d (.i .i64 y3)) (w64 (n14 + 1)) (.d (.b y1))
    else
     q1 s10 (keepV [] v11) n14 y1
/-- impl.vars -/
def t82 (l1 : List (List D)) : Rs :=
  l82o0 l1 (⟨#[]⟩ : ByteArray) l1 (l1.length : Int)
   (fun (s28 : ByteArray) (v29 : SV) (n30 : Int) (b31 : Bool) =>
    some ([.one (.s s28)], [])) KK (⟨#[]⟩ : ByteArray) SV.undef 0 SV.undef
def zr82 : List DV := [.one (.s ⟨#[]⟩)]
def zo82 : List (List D) := []
def A82 : List TA := [.one (.l)]
def v82 (vs : List Vr) : Rs := t82 (vL vs 0)
def g82 (xs : List DV) : Bool × List DV × List (List D) := gOf zr82 zo82 (argsT A82 v82 xs)
/-- impl.ShowCall -/
def t70 (n1 : Int) (s2 : ByteArray) (s3 : ByteArray) (n4 : Int) (n5 : Int) (s6 : ByteArray) : Rs :=
  let y1 := t63 n1 s2 s3 n4 n5 s6
  chk (okR zr63 zo63 y1) <|
  if !(asB (resC y1 0 0)) then
   some ([.one (.s (⟨#[]⟩ : ByteArray))], [])
  else
   chk (okR zr91 zo91 (t91 n1)) <|
   chk (okR zr83 zo83 (t83 s2)) <|
   let y2 := asS (resC (t91 n1) 0 0)
   let y3 := asS (resC (t83 s2) 0 0)
   chk (decide (y2.size + y3.size ≤ lim)) <|
   chk (okR zr83 zo83 (t83 s3)) <|
   let y4 := y2 ++ y3
   let y5 := asS (resC (t83 s3) 0 0)
   chk (decide (y4.size + y5.size ≤ lim)) <|
   chk (okR zr112 zo112 (t112 n4)) <|
   chk (okR zr112 zo112 (t112 n5)) <|
   let y6 := t82 ([[.i .i64 (asI (resC (t112 n4) 0 0))], [.i .i64 (asI (resC (t112 n5) 0 0))]] : List (List D))
   chk (okR zr82 zo82 y6) <|
   let y7 := y4 ++ y5
   let y8 := asS (resC y6 0 0)
   chk (decide (y7.size + y8.size ≤ lim)) <|
   chk (okR zr83 zo83 (t83 s6)) <|
   let y9 := y7 ++ y8
   let y10 := asS (resC (t83 s6) 0 0)
   chk (decide (y9.size + y10.size ≤ lim)) <|
   some ([.one (.s (y9 ++ y10))], [])
def zr70 : List DV := [.one (.s ⟨#[]⟩)]
def zo70 : List (List D) := []
def A70 : List TA := [.agg [.i .i64, .s, .s, .i .i64, .i .i64, .s]]
def v70 (vs : List Vr) : Rs := t70 (vI vs 0) (vS vs 1) (vS vs 2) (vI vs 3) (vI vs 4) (vS vs 5)
def g70 (xs : List DV) : Bool × List DV × List (List D) := gOf zr70 zo70 (argsT A70 v70 xs)
/-- impl.ClientSay -/
def t34 (n1 : Int) (n2 : Int) (n3 : Int) (b4 : Bool) (n5 : Int) (s6 : ByteArray) (s7 : ByteArray) (n8 : Int) (n9 : Int) (s10 : ByteArray) (n11 : Int) (n12 : Int) : Rs :=
  let y1 := t22 n1 n2 n3 b4 n5 s6 s7 n8 n9 s10 n11
  chk (okR zr22 zo22 y1) <|
  let y2 := t62 n12 0 4
  let y3 := (!(asB (resC y1 0 0))) || (!b4)
  chk ((okR zr62 zo62 y2) || !(!y3)) <|
  if y3 || (!(asB (resC y2 0 0))) then
   some ([.agg [.i .i64 0, .i .i64 0, .i .i64 0, .b false, .i .i64 0, .s (⟨#[]⟩ : ByteArray)], .one (.b false)], [])
  else
   let y4 := t70 n5 s6 s7 n8 n9 s10
   chk (okR zr70 zo70 y4) <|
   some ([.agg [.i .i64 n1, .i .i64 n2, .i .i64 n12, .b false, .i .i64 n3, .s (asS (resC y4 0 0))], .one (.b true)], [])
def zr34 : List DV := [.agg [.i .i64 0, .i .i64 0, .i .i64 0, .b false, .i .i64 0, .s ⟨#[]⟩], .one (.b false)]
def zo34 : List (List D) := []
def A34 : List TA := [.agg [.i .i64, .i .i64, .i .i64, .b, .i .i64, .s, .s, .i .i64, .i .i64, .s, .i .i64], .one (.i .i64)]
def v34 (vs : List Vr) : Rs := t34 (vI vs 0) (vI vs 1) (vI vs 2) (vB vs 3) (vI vs 4) (vS vs 5) (vS vs 6) (vI vs 7) (vI vs 8) (vS vs 9) (vI vs 10) (vI vs 11)
def g34 (xs : List DV) : Bool × List DV × List (List D) := gOf zr34 zo34 (argsT A34 v34 xs)
/-- laws.eqMail -/
def t35 (n1 : Int) (n2 : Int) (n3 : Int) (b4 : Bool) (n5 : Int) (s6 : ByteArray) (n7 : Int) (n8 : Int) (n9 : Int) (b10 : Bool) (n11 : Int) (s12 : ByteArray) : Rs :=
  if n1 != n7 then
   some ([.one (.b false)], [])
  else
   if n2 != n8 then
    some ([.one (.b false)], [])
   else
    if n3 != n9 then
     some ([.one (.b false)], [])
    else
     if !(b4 == b10) then
      some ([.one (.b false)], [])
     else
      if n5 != n11 then
       some ([.one (.b false)], [])
      else
       if !(s6.toList == s12.toList) then
        some ([.one (.b false)], [])
       else
        some ([.one (.b true)], [])
def zr35 : List DV := [.one (.b false)]
def zo35 : List (List D) := []
def A35 : List TA := [.agg [.i .i64, .i .i64, .i .i64, .b, .i .i64, .s], .agg [.i .i64, .i .i64, .i .i64, .b, .i .i64, .s]]
def v35 (vs : List Vr) : Rs := t35 (vI vs 0) (vI vs 1) (vI vs 2) (vB vs 3) (vI vs 4) (vS vs 5) (vI vs 6) (vI vs 7) (vI vs 8) (vB vs 9) (vI vs 10) (vS vs 11)
def g35 (xs : List DV) : Bool × List DV × List (List D) := gOf zr35 zo35 (argsT A35 v35 xs)
/-- laws.FnExactClientSay -/
def t7 (n1 : Int) (n2 : Int) (n3 : Int) (b4 : Bool) (n5 : Int) (s6 : ByteArray) (s7 : ByteArray) (n8 : Int) (n9 : Int) (s10 : ByteArray) (n11 : Int) (n12 : Int) : Rs :=
  let y1 := t19 n1 n2 n3 b4 n5 s6 s7 n8 n9 s10 n11 1048576
  chk (okR zr19 zo19 y1) <|
  if decide ((asI (resC y1 0 0)) < 0) then
   some ([.one (.b true)], [])
  else
   let y2 := t21 n1 n2 n3 b4 n5 s6 s7 n8 n9 s10 n11
   chk (okR zr21 zo21 y2) <|
   let y3 := t33 (asI (resC y2 0 0)) (asI (resC y2 0 1)) (asI (resC y2 0 2)) (asB (resC y2 0 3)) (asI (resC y2 0 4)) (asS (resC y2 0 5)) (asS (resC y2 0 6)) (asI (resC y2 0 7)) (asI (resC y2 0 8)) (asS (resC y2 0 9)) (asI (resC y2 0 10)) n12
   chk (okR zr33 zo33 y3) <|
   let y4 := t21 n1 n2 n3 b4 n5 s6 s7 n8 n9 s10 n11
   chk (okR zr21 zo21 y4) <|
   let y5 := t34 (asI (resC y4 0 0)) (asI (resC y4 0 1)) (asI (resC y4 0 2)) (asB (resC y4 0 3)) (asI (resC y4 0 4)) (asS (resC y4 0 5)) (asS (resC y4 0 6)) (asI (resC y4 0 7)) (asI (resC y4 0 8)) (asS (resC y4 0 9)) (asI (resC y4 0 10)) n12
   chk (okR zr34 zo34 y5) <|
   let y6 := t35 (asI (resC y5 0 0)) (asI (resC y5 0 1)) (asI (resC y5 0 2)) (asB (resC y5 0 3)) (asI (resC y5 0 4)) (asS (resC y5 0 5)) (asI (resC y3 0 0)) (asI (resC y3 0 1)) (asI (resC y3 0 2)) (asB (resC y3 0 3)) (asI (resC y3 0 4)) (asS (resC y3 0 5))
   chk (okR zr35 zo35 y6) <|
   if (!(asB (resC y6 0 0))) || (!((asB (resC y5 1 0)) == (asB (resC y3 1 0)))) then
    some ([.one (.b false)], [])
   else
    some ([.one (.b true)], [])
def zr7 : List DV := [.one (.b false)]
def zo7 : List (List D) := []
def A7 : List TA := [.agg [.i .i64, .i .i64, .i .i64, .b, .i .i64, .s, .s, .i .i64, .i .i64, .s, .i .i64], .one (.i .i64)]
def v7 (vs : List Vr) : Rs := t7 (vI vs 0) (vI vs 1) (vI vs 2) (vB vs 3) (vI vs 4) (vS vs 5) (vS vs 6) (vI vs 7) (vI vs 8) (vS vs 9) (vI vs 10) (vI vs 11)
def g7 (xs : List DV) : Bool × List DV × List (List D) := gOf zr7 zo7 (argsT A7 v7 xs)
end
end Go.Den.L7
