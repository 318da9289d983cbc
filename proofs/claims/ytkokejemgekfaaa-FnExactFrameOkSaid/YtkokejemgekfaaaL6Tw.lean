/- What the functions come to, as plain Lean. Printed by tw.py. -/
import Derived.Test.YtkokejemgekfaaaDm7
set_option linter.unusedVariables false
namespace Go.Den.L6
open Go
noncomputable section
/-- The rounds that a loop is given: 2 ^ 64; so laid that nothing unfolds it. -/
noncomputable def KK : Nat := Classical.choose (⟨2 ^ 64, rfl⟩ : ∃ n : Nat, n = 2 ^ 64)
def w64 (x : Int) : Int := IntKind.wrap .i64 x
def chk (b : Bool) (x : Rs) : Rs := if b then x else none
def bitAnd (k : IntKind) (a b : Int) : Int := k.wrap (BitVec.ofInt k.bits a &&& BitVec.ofInt k.bits b).toNat
def bitOr (k : IntKind) (a b : Int) : Int := k.wrap (BitVec.ofInt k.bits a ||| BitVec.ofInt k.bits b).toNat
def bitXor (k : IntKind) (a b : Int) : Int := k.wrap (BitVec.ofInt k.bits a ^^^ BitVec.ofInt k.bits b).toNat
def stR (xs : List (List D)) (i off : Nat) (ys : List D) : List (List D) := xs.modify i fun r => r.take off ++ ys ++ r.drop (off + ys.length)
def z25 : List D := [.i .i64 0, .i .i64 0, .i .i64 0, .i .i64 0, .s ⟨#[]⟩, .s ⟨#[]⟩, .i .i64 0, .i .i64 0, .s ⟨#[]⟩]
def z30 : List D := [.i .i64 0, .i .i64 0, .i .i64 0, .i .i64 0, .s ⟨#[]⟩, .s ⟨#[]⟩, .i .i64 0, .i .i64 0, .s ⟨#[]⟩]
/-- laws.szCall -/
def t23 (n1 : Int) (s2 : ByteArray) (s3 : ByteArray) (n4 : Int) (n5 : Int) (s6 : ByteArray) (n7 : Int) : Rs :=
  let y1 := w64 (n7 - (s2.size : Int))
  if decide (y1 < 0) then
   some ([.one (.i .i64 (-1))], [])
  else
   let y2 := w64 (y1 - (s3.size : Int))
   if decide (y2 < 0) then
    some ([.one (.i .i64 (-1))], [])
   else
    let y3 := w64 (y2 - (s6.size : Int))
    if decide (y3 < 0) then
     some ([.one (.i .i64 (-1))], [])
    else
     some ([.one (.i .i64 y3)], [])
def zr23 : List DV := [.one (.i .i64 0)]
def zo23 : List (List D) := []
def A23 : List TA := [.agg [.i .i64, .s, .s, .i .i64, .i .i64, .s], .one (.i .i64)]
def v23 (vs : List Vr) : Rs := t23 (vI vs 0) (vS vs 1) (vS vs 2) (vI vs 3) (vI vs 4) (vS vs 5) (vI vs 6)
def g23 (xs : List DV) : Bool × List DV × List (List D) := gOf zr23 zo23 (argsT A23 v23 xs)
/-- laws.szSlot -/
def t15 (n1 : Int) (n2 : Int) (n3 : Int) (n4 : Int) (s5 : ByteArray) (s6 : ByteArray) (n7 : Int) (n8 : Int) (s9 : ByteArray) (n10 : Int) : Rs :=
  let y1 := t23 n4 s5 s6 n7 n8 s9 n10
  chk (okR zr23 zo23 y1) <|
  let y2 := asI (resC y1 0 0)
  if decide (y2 < 0) then
   some ([.one (.i .i64 (-1))], [])
  else
   some ([.one (.i .i64 y2)], [])
def zr15 : List DV := [.one (.i .i64 0)]
def zo15 : List (List D) := []
def A15 : List TA := [.agg [.i .i64, .i .i64, .i .i64, .i .i64, .s, .s, .i .i64, .i .i64, .s], .one (.i .i64)]
def v15 (vs : List Vr) : Rs := t15 (vI vs 0) (vI vs 1) (vI vs 2) (vI vs 3) (vS vs 4) (vS vs 5) (vI vs 6) (vI vs 7) (vS vs 8) (vI vs 9)
def g15 (xs : List DV) : Bool × List DV × List (List D) := gOf zr15 zo15 (argsT A15 v15 xs)
def l28o1 (l8 : List (List D)) (n10 : Int) (b12 : Bool) (q1 : Int → Int → Bool → Bool → Rs) (q2 : Int → Int → Bool → SV → Rs) : Nat → Int → Int → SV → SV → Rs
  | 0, _, _, _, _ => none
  | m + 1, n9, n11, v13, v14 =>
    let y1 := decide (n11 < (l8.length : Int))
    if y1 then
     let y2 := l8.getD n11.toNat []
     chk (decide (0 ≤ n11) && decide (n11 < l8.length) && isRow z25 y2) <|
     let y3 := t15 (asI (nthD y2 0)) (asI (nthD y2 1)) (asI (nthD y2 2)) (asI (nthD y2 3)) (asS (nthD y2 4)) (asS (nthD y2 5)) (asI (nthD y2 6)) (asI (nthD y2 7)) (asS (nthD y2 8)) n9
     chk (okR zr15 zo15 y3) <|
     let y4 := asI (resC y3 0 0)
     let y5 := decide (y4 < 0)
     if y5 then
      q1 y4 n11 y1 y5
     else
      l28o1 l8 n10 b12 q1 q2 m y4 (w64 (n11 + 1)) (.d (.b y1)) (.d (.b y5))
    else
     q2 n9 n11 y1 (keepV [] v14)
/-- laws.szSlotS -/
def t28 (l1 : List (List D)) (n2 : Int) : Rs :=
  let y1 := w64 (n2 - (l1.length : Int))
  let y2 := decide (y1 < 0)
  if y2 then
   some ([.one (.i .i64 (-1))], [])
  else
   l28o1 l1 0 y2
    (fun (n30 : Int) (n31 : Int) (b32 : Bool) (b33 : Bool) =>
     some ([.one (.i .i64 (-1))], []))
    (fun (n34 : Int) (n35 : Int) (b36 : Bool) (v37 : SV) =>
     some ([.one (.i .i64 n34)], [])) KK y1 0 SV.undef SV.undef
def zr28 : List DV := [.one (.i .i64 0)]
def zo28 : List (List D) := []
def A28 : List TA := [.one (.l), .one (.i .i64)]
def v28 (vs : List Vr) : Rs := t28 (vL vs 0) (vI vs 1)
def g28 (xs : List DV) : Bool × List DV × List (List D) := gOf zr28 zo28 (argsT A28 v28 xs)
/-- laws.toCall -/
def t25 (n1 : Int) (s2 : ByteArray) (s3 : ByteArray) (n4 : Int) (n5 : Int) (s6 : ByteArray) : Rs :=
  some ([.agg [.i .i64 n1, .s s2, .s s3, .i .i64 n4, .i .i64 n5, .s s6]], [])
def zr25 : List DV := [.agg [.i .i64 0, .s ⟨#[]⟩, .s ⟨#[]⟩, .i .i64 0, .i .i64 0, .s ⟨#[]⟩]]
def zo25 : List (List D) := []
def A25 : List TA := [.agg [.i .i64, .s, .s, .i .i64, .i .i64, .s]]
def v25 (vs : List Vr) : Rs := t25 (vI vs 0) (vS vs 1) (vS vs 2) (vI vs 3) (vI vs 4) (vS vs 5)
def g25 (xs : List DV) : Bool × List DV × List (List D) := gOf zr25 zo25 (argsT A25 v25 xs)
/-- laws.toSlot -/
def t17 (n1 : Int) (n2 : Int) (n3 : Int) (n4 : Int) (s5 : ByteArray) (s6 : ByteArray) (n7 : Int) (n8 : Int) (s9 : ByteArray) : Rs :=
  let y1 := t25 n4 s5 s6 n7 n8 s9
  chk (okR zr25 zo25 y1) <|
  some ([.agg [.i .i64 n1, .i .i64 n2, .i .i64 n3, .i .i64 (asI (resC y1 0 0)), .s (asS (resC y1 0 1)), .s (asS (resC y1 0 2)), .i .i64 (asI (resC y1 0 3)), .i .i64 (asI (resC y1 0 4)), .s (asS (resC y1 0 5))]], [])
def zr17 : List DV := [.agg [.i .i64 0, .i .i64 0, .i .i64 0, .i .i64 0, .s ⟨#[]⟩, .s ⟨#[]⟩, .i .i64 0, .i .i64 0, .s ⟨#[]⟩]]
def zo17 : List (List D) := []
def A17 : List TA := [.agg [.i .i64, .i .i64, .i .i64, .i .i64, .s, .s, .i .i64, .i .i64, .s]]
def v17 (vs : List Vr) : Rs := t17 (vI vs 0) (vI vs 1) (vI vs 2) (vI vs 3) (vS vs 4) (vS vs 5) (vI vs 6) (vI vs 7) (vS vs 8)
def g17 (xs : List DV) : Bool × List DV × List (List D) := gOf zr17 zo17 (argsT A17 v17 xs)
def l30o0 (l5 : List (List D)) (q1 : Int → Bool → List (List D) → Rs) : Nat → Int → SV → List (List D) → Rs
  | 0, _, _, _ => none
  | m + 1, n6, v7, l8 =>
    let y1 := decide (n6 < (l5.length : Int))
    if y1 then
     let y2 := l5.getD n6.toNat []
     chk (decide (0 ≤ n6) && decide (n6 < l5.length) && isRow z25 y2) <|
     let y3 := t17 (asI (nthD y2 0)) (asI (nthD y2 1)) (asI (nthD y2 2)) (asI (nthD y2 3)) (asS (nthD y2 4)) (asS (nthD y2 5)) (asI (nthD y2 6)) (asI (nthD y2 7)) (asS (nthD y2 8))
     chk (okR zr17 zo17 y3) <|
     chk (decide (0 ≤ n6) && decide (n6 < l8.length)) <|
     chk (decide (9 ≤ 9 ∧ (n6.toNat) < l8.length)) <|
     l30o0 l5 q1 m (w64 (n6 + 1)) (.d (.b y1)) (stR l8 (n6.toNat) 0 [.i .i64 (asI (resC y3 0 0)), .i .i64 (asI (resC y3 0 1)), .i .i64 (asI (resC y3 0 2)), .i .i64 (asI (resC y3 0 3)), .s (asS (resC y3 0 4)), .s (asS (resC y3 0 5)), .i .i64 (asI (resC y3 0 6)), .i .i64 (asI (resC y3 0 7)), .s (asS (resC y3 0 8))])
    else
     q1 n6 y1 l8
/-- laws.toSlotS -/
def t30 (l1 : List (List D)) : Rs :=
  let y1 := (l1.length : Int)
  chk (decide (0 ≤ y1 ∧ y1 ≤ lim ∧ y1 = y1)) <|
  l30o0 l1
   (fun (n16 : Int) (b17 : Bool) (l18 : List (List D)) =>
    some ([.one (.l l18)], [])) KK 0 SV.undef (List.replicate y1.toNat z30)
def zr30 : List DV := [.one (.l [])]
def zo30 : List (List D) := []
def A30 : List TA := [.one (.l)]
def v30 (vs : List Vr) : Rs := t30 (vL vs 0)
def g30 (xs : List DV) : Bool × List DV × List (List D) := gOf zr30 zo30 (argsT A30 v30 xs)
/-- spec.l1In -/
def t60 (n1 : Int) (n2 : Int) (n3 : Int) : Rs :=
  some ([.one (.b ((decide (n1 ≥ n2)) && (decide (n1 ≤ n3))))], [])
def zr60 : List DV := [.one (.b false)]
def zo60 : List (List D) := []
def A60 : List TA := [.one (.i .i64), .one (.i .i64), .one (.i .i64)]
def v60 (vs : List Vr) : Rs := t60 (vI vs 0) (vI vs 1) (vI vs 2)
def g60 (xs : List DV) : Bool × List DV × List (List D) := gOf zr60 zo60 (argsT A60 v60 xs)
/-- spec.CallOk -/
def t61 (n1 : Int) (s2 : ByteArray) (s3 : ByteArray) (n4 : Int) (n5 : Int) (s6 : ByteArray) : Rs :=
  let y1 := t60 n1 1 22
  chk (okR zr60 zo60 y1) <|
  let y2 := t60 n4 (-1000000) 1000000
  let y3 := (((!(asB (resC y1 0 0))) || (decide ((s2.size : Int) > 60))) || (decide ((s3.size : Int) > 60))) || (decide ((s6.size : Int) > 64))
  chk ((okR zr60 zo60 y2) || !(!y3)) <|
  let y4 := t60 n5 (-1000000) 1000000
  let y5 := y3 || (!(asB (resC y2 0 0)))
  chk ((okR zr60 zo60 y4) || !(!y5)) <|
  if y5 || (!(asB (resC y4 0 0))) then
   some ([.one (.b false)], [])
  else
   if (((!(s3.toList == (⟨#[]⟩ : ByteArray).toList)) && (n1 != 9)) && (n1 != 10)) && (n1 != 12) then
    some ([.one (.b false)], [])
   else
    some ([.one (.b (((s6.toList == (⟨#[]⟩ : ByteArray).toList) || (n1 == 5)) || (n1 == 6)))], [])
def zr61 : List DV := [.one (.b false)]
def zo61 : List (List D) := []
def A61 : List TA := [.agg [.i .i64, .s, .s, .i .i64, .i .i64, .s]]
def v61 (vs : List Vr) : Rs := t61 (vI vs 0) (vS vs 1) (vS vs 2) (vI vs 3) (vI vs 4) (vS vs 5)
def g61 (xs : List DV) : Bool × List DV × List (List D) := gOf zr61 zo61 (argsT A61 v61 xs)
/-- spec.SlotOk -/
def t16 (n1 : Int) (n2 : Int) (n3 : Int) (n4 : Int) (s5 : ByteArray) (s6 : ByteArray) (n7 : Int) (n8 : Int) (s9 : ByteArray) : Rs :=
  chk (okR zr60 zo60 (t60 n1 0 2)) <|
  let y1 := asB (resC (t60 n1 0 2) 0 0)
  chk ((okR zr60 zo60 (t60 n2 1 3)) || !y1) <|
  let y2 := t60 n3 1 1000000
  let y3 := y1 && (asB (resC (t60 n2 1 3) 0 0))
  chk ((okR zr60 zo60 y2) || !y3) <|
  let y4 := t61 n4 s5 s6 n7 n8 s9
  let y5 := y3 && (asB (resC y2 0 0))
  chk ((okR zr61 zo61 y4) || !y5) <|
  some ([.one (.b (y5 && (asB (resC y4 0 0))))], [])
def zr16 : List DV := [.one (.b false)]
def zo16 : List (List D) := []
def A16 : List TA := [.agg [.i .i64, .i .i64, .i .i64, .i .i64, .s, .s, .i .i64, .i .i64, .s]]
def v16 (vs : List Vr) : Rs := t16 (vI vs 0) (vI vs 1) (vI vs 2) (vI vs 3) (vS vs 4) (vS vs 5) (vI vs 6) (vI vs 7) (vS vs 8)
def g16 (xs : List DV) : Bool × List DV × List (List D) := gOf zr16 zo16 (argsT A16 v16 xs)
def l66o0 (l7 : List (List D)) (n8 : Int) (b9 : Bool) (q1 : Int → Bool → Bool → Rs) (q2 : Int → Bool → SV → Rs) : Nat → Int → SV → SV → Rs
  | 0, _, _, _ => none
  | m + 1, n10, v11, v12 =>
    let y1 := decide (n10 < (l7.length : Int))
    if y1 then
     let y2 := l7.getD n10.toNat []
     chk (decide (0 ≤ n10) && decide (n10 < l7.length) && isRow z30 y2) <|
     let y3 := t16 (asI (nthD y2 0)) (asI (nthD y2 1)) (asI (nthD y2 2)) (asI (nthD y2 3)) (asS (nthD y2 4)) (asS (nthD y2 5)) (asI (nthD y2 6)) (asI (nthD y2 7)) (asS (nthD y2 8))
     chk (okR zr16 zo16 y3) <|
     let y4 := w64 (n10 - 1)
     let y5 := l7.getD y4.toNat []
     let y6 := !(asB (resC y3 0 0))
     let y7 := !y6
     let y8 := decide (n10 > 0)
     chk ((decide (0 ≤ y4) && decide (y4 < l7.length) && isRow z30 y5) || !(y7 && y8)) <|
     let y9 := l7.getD n10.toNat []
     chk ((decide (0 ≤ n10) && decide (n10 < l7.length) && isRow z30 y9) || !(y7 && y8)) <|
     let y10 := w64 (n10 - n8)
     let y11 := l7.getD y10.toNat []
     let y12 := y6 || (y8 && (decide ((asI (nthD y5 0)) > (asI (nthD y9 0)))))
     let y13 := !y12
     let y14 := decide (n10 ≥ n8)
     chk ((decide (0 ≤ y10) && decide (y10 < l7.length) && isRow z30 y11) || !(y13 && y14)) <|
     let y15 := l7.getD n10.toNat []
     chk ((decide (0 ≤ n10) && decide (n10 < l7.length) && isRow z30 y15) || !(y13 && y14)) <|
     let y16 := y12 || (y14 && ((asI (nthD y11 0)) == (asI (nthD y15 0))))
     if y16 then
      q1 n10 y1 y16
     else
      l66o0 l7 n8 b9 q1 q2 m (w64 (n10 + 1)) (.d (.b y1)) (.d (.b y16))
    else
     q2 n10 y1 (keepV [] v12)
/-- spec.l11Grouped -/
def t66 (l1 : List (List D)) (n2 : Int) : Rs :=
  l66o0 l1 n2 false
   (fun (n25 : Int) (b26 : Bool) (b27 : Bool) =>
    some ([.one (.b false)], []))
   (fun (n28 : Int) (b29 : Bool) (v30 : SV) =>
    some ([.one (.b true)], [])) KK 0 SV.undef SV.undef
def zr66 : List DV := [.one (.b false)]
def zo66 : List (List D) := []
def A66 : List TA := [.one (.l), .one (.i .i64)]
def v66 (vs : List Vr) : Rs := t66 (vL vs 0) (vI vs 1)
def g66 (xs : List DV) : Bool × List DV × List (List D) := gOf zr66 zo66 (argsT A66 v66 xs)
/-- spec.FrameOk -/
def t29 (l1 : List (List D)) : Rs :=
  chk (okR zr66 zo66 (t66 l1 2)) <|
  some ([.one (.b (asB (resC (t66 l1 2) 0 0)))], [])
def zr29 : List DV := [.one (.b false)]
def zo29 : List (List D) := []
def A29 : List TA := [.one (.l)]
def v29 (vs : List Vr) : Rs := t29 (vL vs 0)
def g29 (xs : List DV) : Bool × List DV × List (List D) := gOf zr29 zo29 (argsT A29 v29 xs)
/-- impl.within -/
def t62 (n1 : Int) (n2 : Int) (n3 : Int) : Rs :=
  some ([.one (.b ((decide (n1 ≥ n2)) && (decide (n1 ≤ n3))))], [])
def zr62 : List DV := [.one (.b false)]
def zo62 : List (List D) := []
def A62 : List TA := [.one (.i .i64), .one (.i .i64), .one (.i .i64)]
def v62 (vs : List Vr) : Rs := t62 (vI vs 0) (vI vs 1) (vI vs 2)
def g62 (xs : List DV) : Bool × List DV × List (List D) := gOf zr62 zo62 (argsT A62 v62 xs)
/-- impl.CallOk -/
def t63 (n1 : Int) (s2 : ByteArray) (s3 : ByteArray) (n4 : Int) (n5 : Int) (s6 : ByteArray) : Rs :=
  if ((!(((n1 == 9) || (n1 == 10)) || (n1 == 12))) && (!(s3.toList == (⟨#[]⟩ : ByteArray).toList))) || ((!((n1 == 5) || (n1 == 6))) && (!(s6.toList == (⟨#[]⟩ : ByteArray).toList))) then
   some ([.one (.b false)], [])
  else
   let y1 := t62 n1 1 22
   chk (okR zr62 zo62 y1) <|
   let y2 := t62 n4 (-1000000) 1000000
   let y3 := (((asB (resC y1 0 0)) && (decide ((s2.size : Int) ≤ 60))) && (decide ((s3.size : Int) ≤ 60))) && (decide ((s6.size : Int) ≤ 64))
   chk ((okR zr62 zo62 y2) || !y3) <|
   let y4 := t62 n5 (-1000000) 1000000
   let y5 := y3 && (asB (resC y2 0 0))
   chk ((okR zr62 zo62 y4) || !y5) <|
   some ([.one (.b (y5 && (asB (resC y4 0 0))))], [])
def zr63 : List DV := [.one (.b false)]
def zo63 : List (List D) := []
def A63 : List TA := [.agg [.i .i64, .s, .s, .i .i64, .i .i64, .s]]
def v63 (vs : List Vr) : Rs := t63 (vI vs 0) (vS vs 1) (vS vs 2) (vI vs 3) (vI vs 4) (vS vs 5)
def g63 (xs : List DV) : Bool × List DV × List (List D) := gOf zr63 zo63 (argsT A63 v63 xs)
/-- impl.SlotOk -/
def t18 (n1 : Int) (n2 : Int) (n3 : Int) (n4 : Int) (s5 : ByteArray) (s6 : ByteArray) (n7 : Int) (n8 : Int) (s9 : ByteArray) : Rs :=
  chk (okR zr62 zo62 (t62 n1 0 2)) <|
  let y1 := asB (resC (t62 n1 0 2) 0 0)
  chk ((okR zr62 zo62 (t62 n2 1 3)) || !y1) <|
  let y2 := t62 n3 1 1000000
  let y3 := y1 && (asB (resC (t62 n2 1 3) 0 0))
  chk ((okR zr62 zo62 y2) || !y3) <|
  let y4 := t63 n4 s5 s6 n7 n8 s9
  let y5 := y3 && (asB (resC y2 0 0))
  chk ((okR zr63 zo63 y4) || !y5) <|
  some ([.one (.b (y5 && (asB (resC y4 0 0))))], [])
def zr18 : List DV := [.one (.b false)]
def zo18 : List (List D) := []
def A18 : List TA := [.agg [.i .i64, .i .i64, .i .i64, .i .i64, .s, .s, .i .i64, .i .i64, .s]]
def v18 (vs : List Vr) : Rs := t18 (vI vs 0) (vI vs 1) (vI vs 2) (vI vs 3) (vS vs 4) (vS vs 5) (vI vs 6) (vI vs 7) (vS vs 8)
def g18 (xs : List DV) : Bool × List DV × List (List D) := gOf zr18 zo18 (argsT A18 v18 xs)
def l67o0 (l11 : List (List D)) (n12 : Int) (b13 : Bool) (l16 : List (List D)) (n17 : Int) (q1 : Int → Int → Bool → Bool → Bool → Int → Int → Int → Int → ByteArray → ByteArray → Int → Int → ByteArray → Rs) (q2 : Int → SV → Int → Bool → SV → SV → Rs) : Nat → Int → SV → Int → SV → SV → SV → Rs
  | 0, _, _, _, _, _, _ => none
  | m + 1, n14, v15, n18, v19, v20, v21 =>
    let y1 := decide (n18 < n17)
    if y1 then
     let y2 := l16.getD n18.toNat []
     chk (decide (0 ≤ n18) && decide (n18 < l16.length) && isRow z30 y2) <|
     let y3 := w64 (n18 - 1)
     let y4 := l11.getD y3.toNat []
     let y5 := decide (n18 > 0)
     chk ((decide (0 ≤ y3) && decide (y3 < l11.length) && isRow z30 y4) || !y5) <|
     let k1 := fun (n22 : Int) =>
      let y6 := asI (nthD y2 0)
      let y7 := asI (nthD y2 1)
      let y8 := asI (nthD y2 2)
      let y9 := asI (nthD y2 3)
      let y10 := asS (nthD y2 4)
      let y11 := asS (nthD y2 5)
      let y12 := asI (nthD y2 6)
      let y13 := asI (nthD y2 7)
      let y14 := asS (nthD y2 8)
      let y15 := t18 y6 y7 y8 y9 y10 y11 y12 y13 y14
      chk (okR zr18 zo18 y15) <|
      let y16 := w64 (n18 - 1)
      let y17 := l11.getD y16.toNat []
      let y18 := !(asB (resC y15 0 0))
      let y19 := decide (n18 > 0)
      chk ((decide (0 ≤ y16) && decide (y16 < l11.length) && isRow z30 y17) || !((!y18) && y19)) <|
      let y20 := (y18 || (y19 && (decide ((asI (nthD y17 0)) > y6)))) || (decide (n22 > n12))
      if y20 then
       let y21 := y5 && ((asI (nthD y4 0)) != y6)
       q1 n22 n18 y1 y21 y20 y6 y7 y8 y9 y10 y11 y12 y13 y14
      else
       let y22 := y5 && ((asI (nthD y4 0)) != y6)
       l67o0 l11 n12 b13 l16 n17 q1 q2 m n22 (.d (.i .i64 n18)) (w64 (n18 + 1)) (.d (.b y1)) (.d (.b y22)) (.d (.b y20))
     let y23 := asI (nthD y2 0)
     let y24 := y5 && ((asI (nthD y4 0)) != y23)
     if y24 then
      k1 1
     else
      k1 (w64 (n14 + 1))
    else
     q2 n14 (keepV [] v15) n18 y1 (keepV [] v20) (keepV [] v21)
/-- impl.slotsOk -/
def t67 (l1 : List (List D)) (n2 : Int) : Rs :=
  l67o0 l1 n2 false l1 (l1.length : Int)
   (fun (n54 : Int) (n55 : Int) (b56 : Bool) (b57 : Bool) (b58 : Bool) (n59 : Int) (n60 : Int) (n61 : Int) (n62 : Int) (s63 : ByteArray) (s64 : ByteArray) (n65 : Int) (n66 : Int) (s67 : ByteArray) =>
    some ([.one (.b false)], []))
   (fun (n68 : Int) (v69 : SV) (n70 : Int) (b71 : Bool) (v72 : SV) (v73 : SV) =>
    some ([.one (.b true)], [])) KK 0 SV.undef 0 SV.undef SV.undef SV.undef
def zr67 : List DV := [.one (.b false)]
def zo67 : List (List D) := []
def A67 : List TA := [.one (.l), .one (.i .i64)]
def v67 (vs : List Vr) : Rs := t67 (vL vs 0) (vI vs 1)
def g67 (xs : List DV) : Bool × List DV × List (List D) := gOf zr67 zo67 (argsT A67 v67 xs)
/-- impl.FrameOk -/
def t31 (l1 : List (List D)) : Rs :=
  chk (okR zr67 zo67 (t67 l1 2)) <|
  some ([.one (.b (asB (resC (t67 l1 2) 0 0)))], [])
def zr31 : List DV := [.one (.b false)]
def zo31 : List (List D) := []
def A31 : List TA := [.one (.l)]
def v31 (vs : List Vr) : Rs := t31 (vL vs 0)
def g31 (xs : List DV) : Bool × List DV × List (List D) := gOf zr31 zo31 (argsT A31 v31 xs)
/-- laws.eqCall -/
def t65 (n1 : Int) (s2 : ByteArray) (s3 : ByteArray) (n4 : Int) (n5 : Int) (s6 : ByteArray) (n7 : Int) (s8 : ByteArray) (s9 : ByteArray) (n10 : Int) (n11 : Int) (s12 : ByteArray) : Rs :=
  if n1 != n7 then
   some ([.one (.b false)], [])
  else
   if !(s2.toList == s8.toList) then
    some ([.one (.b false)], [])
   else
    if !(s3.toList == s9.toList) then
     some ([.one (.b false)], [])
    else
     if n4 != n10 then
      some ([.one (.b false)], [])
     else
      if n5 != n11 then
       some ([.one (.b false)], [])
      else
       if !(s6.toList == s12.toList) then
        some ([.one (.b false)], [])
       else
        some ([.one (.b true)], [])
def zr65 : List DV := [.one (.b false)]
def zo65 : List (List D) := []
def A65 : List TA := [.agg [.i .i64, .s, .s, .i .i64, .i .i64, .s], .agg [.i .i64, .s, .s, .i .i64, .i .i64, .s]]
def v65 (vs : List Vr) : Rs := t65 (vI vs 0) (vS vs 1) (vS vs 2) (vI vs 3) (vI vs 4) (vS vs 5) (vI vs 6) (vS vs 7) (vS vs 8) (vI vs 9) (vI vs 10) (vS vs 11)
def g65 (xs : List DV) : Bool × List DV × List (List D) := gOf zr65 zo65 (argsT A65 v65 xs)
/-- laws.eqSlot -/
def t68 (n1 : Int) (n2 : Int) (n3 : Int) (n4 : Int) (s5 : ByteArray) (s6 : ByteArray) (n7 : Int) (n8 : Int) (s9 : ByteArray) (n10 : Int) (n11 : Int) (n12 : Int) (n13 : Int) (s14 : ByteArray) (s15 : ByteArray) (n16 : Int) (n17 : Int) (s18 : ByteArray) : Rs :=
  if n1 != n10 then
   some ([.one (.b false)], [])
  else
   if n2 != n11 then
    some ([.one (.b false)], [])
   else
    if n3 != n12 then
     some ([.one (.b false)], [])
    else
     let y1 := t65 n4 s5 s6 n7 n8 s9 n13 s14 s15 n16 n17 s18
     chk (okR zr65 zo65 y1) <|
     if !(asB (resC y1 0 0)) then
      some ([.one (.b false)], [])
     else
      some ([.one (.b true)], [])
def zr68 : List DV := [.one (.b false)]
def zo68 : List (List D) := []
def A68 : List TA := [.agg [.i .i64, .i .i64, .i .i64, .i .i64, .s, .s, .i .i64, .i .i64, .s], .agg [.i .i64, .i .i64, .i .i64, .i .i64, .s, .s, .i .i64, .i .i64, .s]]
def v68 (vs : List Vr) : Rs := t68 (vI vs 0) (vI vs 1) (vI vs 2) (vI vs 3) (vS vs 4) (vS vs 5) (vI vs 6) (vI vs 7) (vS vs 8) (vI vs 9) (vI vs 10) (vI vs 11) (vI vs 12) (vS vs 13) (vS vs 14) (vI vs 15) (vI vs 16) (vS vs 17)
def g68 (xs : List DV) : Bool × List DV × List (List D) := gOf zr68 zo68 (argsT A68 v68 xs)
def l32o1 (l8 : List (List D)) (l9 : List (List D)) (b10 : Bool) (b12 : Bool) (q1 : Int → Bool → Bool → Rs) (q2 : Int → Bool → SV → Rs) : Nat → Int → SV → SV → Rs
  | 0, _, _, _ => none
  | m + 1, n11, v13, v14 =>
    let y1 := decide (n11 < (l8.length : Int))
    if y1 then
     let y2 := l8.getD n11.toNat []
     chk (decide (0 ≤ n11) && decide (n11 < l8.length) && isRow z30 y2) <|
     let y3 := l9.getD n11.toNat []
     chk (decide (0 ≤ n11) && decide (n11 < l9.length) && isRow z30 y3) <|
     let y4 := t68 (asI (nthD y2 0)) (asI (nthD y2 1)) (asI (nthD y2 2)) (asI (nthD y2 3)) (asS (nthD y2 4)) (asS (nthD y2 5)) (asI (nthD y2 6)) (asI (nthD y2 7)) (asS (nthD y2 8)) (asI (nthD y3 0)) (asI (nthD y3 1)) (asI (nthD y3 2)) (asI (nthD y3 3)) (asS (nthD y3 4)) (asS (nthD y3 5)) (asI (nthD y3 6)) (asI (nthD y3 7)) (asS (nthD y3 8))
     chk (okR zr68 zo68 y4) <|
     let y5 := !(asB (resC y4 0 0))
     if y5 then
      q1 n11 y1 y5
     else
      l32o1 l8 l9 b10 b12 q1 q2 m (w64 (n11 + 1)) (.d (.b y1)) (.d (.b y5))
    else
     q2 n11 y1 (keepV [] v14)
/-- laws.eqSlotS -/
def t32 (l1 : List (List D)) (l2 : List (List D)) : Rs :=
  let y1 := (l1.length : Int) != (l2.length : Int)
  if y1 then
   some ([.one (.b false)], [])
  else
   l32o1 l1 l2 false y1
    (fun (n28 : Int) (b29 : Bool) (b30 : Bool) =>
     some ([.one (.b false)], []))
    (fun (n31 : Int) (b32 : Bool) (v33 : SV) =>
     some ([.one (.b true)], [])) KK 0 SV.undef SV.undef
def zr32 : List DV := [.one (.b false)]
def zo32 : List (List D) := []
def A32 : List TA := [.one (.l), .one (.l)]
def v32 (vs : List Vr) : Rs := t32 (vL vs 0) (vL vs 1)
def g32 (xs : List DV) : Bool × List DV × List (List D) := gOf zr32 zo32 (argsT A32 v32 xs)
/-- laws.FnExactFrameOk -/
def t6 (l1 : List (List D)) : Rs :=
  let y1 := t28 l1 1048576
  chk (okR zr28 zo28 y1) <|
  if decide ((asI (resC y1 0 0)) < 0) then
   some ([.one (.b true)], [])
  else
   chk (okR zr30 zo30 (t30 l1)) <|
   let y2 := t29 (asL (resC (t30 l1) 0 0))
   chk (okR zr29 zo29 y2) <|
   chk (okR zr30 zo30 (t30 l1)) <|
   let y3 := asL (resC (t30 l1) 0 0)
   let y4 := t31 y3
   chk (okR zr31 zo31 y4) <|
   if !((asB (resC y4 0 0)) == (asB (resC y2 0 0))) then
    some ([.one (.b false)], [])
   else
    chk (okR zr30 zo30 (t30 l1)) <|
    let y5 := t32 y3 (asL (resC (t30 l1) 0 0))
    chk (okR zr32 zo32 y5) <|
    if !(asB (resC y5 0 0)) then
     some ([.one (.b false)], [])
    else
     some ([.one (.b true)], [])
def zr6 : List DV := [.one (.b false)]
def zo6 : List (List D) := []
def A6 : List TA := [.one (.l)]
def v6 (vs : List Vr) : Rs := t6 (vL vs 0)
def g6 (xs : List DV) : Bool × List DV × List (List D) := gOf zr6 zo6 (argsT A6 v6 xs)
end
end Go.Den.L6
