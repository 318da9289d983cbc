/- What the functions come to, as plain Lean. Printed by tw.py. -/
import Derived.Test.YtagdeibfjlapnaaDm7
set_option linter.unusedVariables false
namespace Go.Den.L3
open Go
noncomputable section
/-- The rounds that a loop is given: 2 ^ 64; so laid that nothing unfolds it. -/
noncomputable def KK : Nat := Classical.choose (⟨2 ^ 64, rfl⟩ : ∃ n : Nat, n = 2 ^ 64)
def w64 (x : Int) : Int := IntKind.wrap .i64 x
def chk (b : Bool) (x : Rs) : Rs := if b then x else none
def bitAnd (k : IntKind) (a b : Int) : Int := k.wrap (BitVec.ofInt k.bits a &&& BitVec.ofInt k.bits b).toNat
def bitOr (k : IntKind) (a b : Int) : Int := k.wrap (BitVec.ofInt k.bits a ||| BitVec.ofInt k.bits b).toNat
def bitXor (k : IntKind) (a b : Int) : Int := k.wrap (BitVec.ofInt k.bits a ^^^ BitVec.ofInt k.bits b).toNat
def stR (xs : List (List D)) (i off : Nat) (ys : List D) : List (List D) := xs.modify i fun r => r.take off ++ ys ++ r.drop (off + ys.length)
def z3 : List D := [.i .i64 0]
def z127 : List D := [.i .i64 0, .s ⟨#[]⟩]
def z129 : List D := [.i .i64 0, .s ⟨#[]⟩]
/-- laws.szEntry -/
def t79 (n1 : Int) (s2 : ByteArray) (n3 : Int) : Rs :=
  let y1 := w64 (n3 - (s2.size : Int))
  if decide (y1 < (0 : Int)) then
   some ([.one (.i .i64 (-1 : Int))], [])
  else
   some ([.one (.i .i64 y1)], [])
def zr79 : List DV := [.one (.i .i64 0)]
def zo79 : List (List D) := []
def A79 : List TA := [.agg [.i .i64, .s], .one (.i .i64)]
def v79 (vs : List Vr) : Rs := t79 (vI vs 0) (vS vs 1) (vI vs 2)
def g79 (xs : List DV) : Bool × List DV × List (List D) := gOf zr79 zo79 (argsT A79 v79 xs)
def l33o1 (l8 : List (List D)) (n10 : Int) (b12 : Bool) (q1 : Int → Int → Bool → Bool → Rs) (q2 : Int → Int → Bool → SV → Rs) : Nat → Int → Int → SV → SV → Rs
  | 0, _, _, _, _ => none
  | m + 1, n9, n11, v13, v14 =>
    let y1 := decide (n11 < (l8.length : Int))
    if y1 then
     let y2 := l8.getD n11.toNat []
     chk (decide (0 ≤ n11) && decide (n11 < l8.length) && isRow z127 y2) <|
     let y3 := t79 (asI (nthD y2 0)) (asS (nthD y2 1)) n9
     chk (okR zr79 zo79 y3) <|
     let y4 := asI (resC y3 0 0)
     let y5 := decide (y4 < (0 : Int))
     if y5 then
      q1 y4 n11 y1 y5
     else
      l33o1 l8 n10 b12 q1 q2 m y4 (w64 (n11 + (1 : Int))) (.d (.b y1)) (.d (.b y5))
    else
     q2 n9 n11 y1 (keepV [] v14)
/-- laws.szEntryS -/
def t33 (l1 : List (List D)) (n2 : Int) : Rs :=
  let y1 := w64 (n2 - (l1.length : Int))
  let y2 := decide (y1 < (0 : Int))
  if y2 then
   some ([.one (.i .i64 (-1 : Int))], [])
  else
   l33o1 l1 (0 : Int) y2
    (fun (n30 : Int) (n31 : Int) (b32 : Bool) (b33 : Bool) =>
     some ([.one (.i .i64 (-1 : Int))], []))
    (fun (n34 : Int) (n35 : Int) (b36 : Bool) (v37 : SV) =>
     some ([.one (.i .i64 n34)], [])) KK y1 (0 : Int) SV.undef SV.undef
def zr33 : List DV := [.one (.i .i64 0)]
def zo33 : List (List D) := []
def A33 : List TA := [.one (.l), .one (.i .i64)]
def v33 (vs : List Vr) : Rs := t33 (vL vs 0) (vI vs 1)
def g33 (xs : List DV) : Bool × List DV × List (List D) := gOf zr33 zo33 (argsT A33 v33 xs)
/-- laws.szIntS -/
def t34 (l1 : List (List D)) (n2 : Int) : Rs :=
  let y1 := w64 (n2 - (l1.length : Int))
  if decide (y1 < (0 : Int)) then
   some ([.one (.i .i64 (-1 : Int))], [])
  else
   some ([.one (.i .i64 y1)], [])
def zr34 : List DV := [.one (.i .i64 0)]
def zo34 : List (List D) := []
def A34 : List TA := [.one (.l), .one (.i .i64)]
def v34 (vs : List Vr) : Rs := t34 (vL vs 0) (vI vs 1)
def g34 (xs : List DV) : Bool × List DV × List (List D) := gOf zr34 zo34 (argsT A34 v34 xs)
/-- laws.szCore -/
def t9 (n1 : Int) (n2 : Int) (n3 : Int) (n4 : Int) (n5 : Int) (n6 : Int) (n7 : Int) (n8 : Int) (l9 : List (List D)) (n10 : Int) (l11 : List (List D)) (l12 : List (List D)) (l13 : List (List D)) (n14 : Int) : Rs :=
  chk (okR zr33 zo33 (t33 l9 n14)) <|
  let y1 := asI (resC (t33 l9 n14) 0 0)
  if decide (y1 < (0 : Int)) then
   some ([.one (.i .i64 (-1 : Int))], [])
  else
   let y2 := t34 l11 y1
   chk (okR zr34 zo34 y2) <|
   let y3 := asI (resC y2 0 0)
   if decide (y3 < (0 : Int)) then
    some ([.one (.i .i64 (-1 : Int))], [])
   else
    let y4 := t34 l12 y3
    chk (okR zr34 zo34 y4) <|
    let y5 := asI (resC y4 0 0)
    if decide (y5 < (0 : Int)) then
     some ([.one (.i .i64 (-1 : Int))], [])
    else
     let y6 := t34 l13 y5
     chk (okR zr34 zo34 y6) <|
     let y7 := asI (resC y6 0 0)
     if decide (y7 < (0 : Int)) then
      some ([.one (.i .i64 (-1 : Int))], [])
     else
      some ([.one (.i .i64 y7)], [])
def zr9 : List DV := [.one (.i .i64 0)]
def zo9 : List (List D) := []
def A9 : List TA := [.agg [.i .i64, .i .i64, .i .i64, .i .i64, .i .i64, .i .i64, .i .i64, .i .i64, .l, .i .i64, .l, .l, .l], .one (.i .i64)]
def v9 (vs : List Vr) : Rs := t9 (vI vs 0) (vI vs 1) (vI vs 2) (vI vs 3) (vI vs 4) (vI vs 5) (vI vs 6) (vI vs 7) (vL vs 8) (vI vs 9) (vL vs 10) (vL vs 11) (vL vs 12) (vI vs 13)
def g9 (xs : List DV) : Bool × List DV × List (List D) := gOf zr9 zo9 (argsT A9 v9 xs)
/-- laws.toEntry -/
def t81 (n1 : Int) (s2 : ByteArray) : Rs :=
  some ([.agg [.i .i64 n1, .s s2]], [])
def zr81 : List DV := [.agg [.i .i64 0, .s ⟨#[]⟩]]
def zo81 : List (List D) := []
def A81 : List TA := [.agg [.i .i64, .s]]
def v81 (vs : List Vr) : Rs := t81 (vI vs 0) (vS vs 1)
def g81 (xs : List DV) : Bool × List DV × List (List D) := gOf zr81 zo81 (argsT A81 v81 xs)
def l40o0 (l5 : List (List D)) (q1 : Int → Bool → List (List D) → Rs) : Nat → Int → SV → List (List D) → Rs
  | 0, _, _, _ => none
  | m + 1, n6, v7, l8 =>
    let y1 := decide (n6 < (l5.length : Int))
    if y1 then
     let y2 := l5.getD n6.toNat []
     chk (decide (0 ≤ n6) && decide (n6 < l5.length) && isRow z127 y2) <|
     let y3 := t81 (asI (nthD y2 0)) (asS (nthD y2 1))
     chk (okR zr81 zo81 y3) <|
     chk (decide (0 ≤ n6) && decide (n6 < l8.length)) <|
     chk (decide (2 ≤ 2 ∧ (n6.toNat) < l8.length)) <|
     l40o0 l5 q1 m (w64 (n6 + (1 : Int))) (.d (.b y1)) (stR l8 (n6.toNat) 0 [.i .i64 (asI (resC y3 0 0)), .s (asS (resC y3 0 1))])
    else
     q1 n6 y1 l8
/-- laws.toEntryS -/
def t40 (l1 : List (List D)) : Rs :=
  let y1 := (l1.length : Int)
  chk (decide (0 ≤ y1 ∧ y1 ≤ lim ∧ y1 = y1)) <|
  l40o0 l1
   (fun (n16 : Int) (b17 : Bool) (l18 : List (List D)) =>
    some ([.one (.l l18)], [])) KK (0 : Int) SV.undef (List.replicate y1.toNat z129)
def zr40 : List DV := [.one (.l [])]
def zo40 : List (List D) := []
def A40 : List TA := [.one (.l)]
def v40 (vs : List Vr) : Rs := t40 (vL vs 0)
def g40 (xs : List DV) : Bool × List DV × List (List D) := gOf zr40 zo40 (argsT A40 v40 xs)
def l41o0 (l5 : List (List D)) (q1 : Int → Bool → List (List D) → Rs) : Nat → Int → SV → List (List D) → Rs
  | 0, _, _, _ => none
  | m + 1, n6, v7, l8 =>
    let y1 := decide (n6 < (l5.length : Int))
    if y1 then
     let y2 := l5.getD n6.toNat []
     chk (decide (0 ≤ n6) && decide (n6 < l5.length) && isRow z3 y2) <|
     chk (decide (0 ≤ n6) && decide (n6 < l8.length)) <|
     chk (decide (1 ≤ 1 ∧ (n6.toNat) < l8.length)) <|
     l41o0 l5 q1 m (w64 (n6 + (1 : Int))) (.d (.b y1)) (stR l8 (n6.toNat) 0 [.i .i64 (asI (nthD y2 0))])
    else
     q1 n6 y1 l8
/-- laws.toIntS -/
def t41 (l1 : List (List D)) : Rs :=
  let y1 := (l1.length : Int)
  chk (decide (0 ≤ y1 ∧ y1 ≤ lim ∧ y1 = y1)) <|
  l41o0 l1
   (fun (n16 : Int) (b17 : Bool) (l18 : List (List D)) =>
    some ([.one (.l l18)], [])) KK (0 : Int) SV.undef (List.replicate y1.toNat z3)
def zr41 : List DV := [.one (.l [])]
def zo41 : List (List D) := []
def A41 : List TA := [.one (.l)]
def v41 (vs : List Vr) : Rs := t41 (vL vs 0)
def g41 (xs : List DV) : Bool × List DV × List (List D) := gOf zr41 zo41 (argsT A41 v41 xs)
/-- laws.toCore -/
def t11 (n1 : Int) (n2 : Int) (n3 : Int) (n4 : Int) (n5 : Int) (n6 : Int) (n7 : Int) (n8 : Int) (l9 : List (List D)) (n10 : Int) (l11 : List (List D)) (l12 : List (List D)) (l13 : List (List D)) : Rs :=
  chk (okR zr40 zo40 (t40 l9)) <|
  chk (okR zr41 zo41 (t41 l11)) <|
  chk (okR zr41 zo41 (t41 l12)) <|
  chk (okR zr41 zo41 (t41 l13)) <|
  some ([.agg [.i .i64 n1, .i .i64 n2, .i .i64 n3, .i .i64 n4, .i .i64 n5, .i .i64 n6, .i .i64 n7, .i .i64 n8, .l (asL (resC (t40 l9) 0 0)), .i .i64 n10, .l (asL (resC (t41 l11) 0 0)), .l (asL (resC (t41 l12) 0 0)), .l (asL (resC (t41 l13) 0 0))]], [])
def zr11 : List DV := [.agg [.i .i64 0, .i .i64 0, .i .i64 0, .i .i64 0, .i .i64 0, .i .i64 0, .i .i64 0, .i .i64 0, .l [], .i .i64 0, .l [], .l [], .l []]]
def zo11 : List (List D) := []
def A11 : List TA := [.agg [.i .i64, .i .i64, .i .i64, .i .i64, .i .i64, .i .i64, .i .i64, .i .i64, .l, .i .i64, .l, .l, .l]]
def v11 (vs : List Vr) : Rs := t11 (vI vs 0) (vI vs 1) (vI vs 2) (vI vs 3) (vI vs 4) (vI vs 5) (vI vs 6) (vI vs 7) (vL vs 8) (vI vs 9) (vL vs 10) (vL vs 11) (vL vs 12)
def g11 (xs : List DV) : Bool × List DV × List (List D) := gOf zr11 zo11 (argsT A11 v11 xs)
/-- spec.l1In -/
def t35 (n1 : Int) (n2 : Int) (n3 : Int) : Rs :=
  some ([.one (.b ((decide (n1 ≥ n2)) && (decide (n1 ≤ n3))))], [])
def zr35 : List DV := [.one (.b false)]
def zo35 : List (List D) := []
def A35 : List TA := [.one (.i .i64), .one (.i .i64), .one (.i .i64)]
def v35 (vs : List Vr) : Rs := t35 (vI vs 0) (vI vs 1) (vI vs 2)
def g35 (xs : List DV) : Bool × List DV × List (List D) := gOf zr35 zo35 (argsT A35 v35 xs)
/-- spec.l13Kept -/
def t37 (n1 : Int) (n2 : Int) (n3 : Int) (n4 : Int) (n5 : Int) (n6 : Int) (n7 : Int) (n8 : Int) (l9 : List (List D)) (n10 : Int) (l11 : List (List D)) (l12 : List (List D)) (l13 : List (List D)) (s14 : ByteArray) : Rs :=
  chk ((flatR 2 l9) && decide (([] : List (List D)).length + l9.length ≤ lim)) <|
  let k1 := fun (n15 : Int) (n16 : Int) (s17 : ByteArray) =>
   some ([.agg [.i .i64 n3, .i .i64 n4, .i .i64 n15, .i .i64 n16, .s s17, .l (([] : List (List D)) ++ l9)]], [])
  if n7 != (0 : Int) then
   k1 n7 n8 s14
  else
   k1 (0 : Int) (0 : Int) (⟨#[]⟩ : ByteArray)
def zr37 : List DV := [.agg [.i .i64 0, .i .i64 0, .i .i64 0, .i .i64 0, .s ⟨#[]⟩, .l []]]
def zo37 : List (List D) := []
def A37 : List TA := [.agg [.i .i64, .i .i64, .i .i64, .i .i64, .i .i64, .i .i64, .i .i64, .i .i64, .l, .i .i64, .l, .l, .l], .one (.s)]
def v37 (vs : List Vr) : Rs := t37 (vI vs 0) (vI vs 1) (vI vs 2) (vI vs 3) (vI vs 4) (vI vs 5) (vI vs 6) (vI vs 7) (vL vs 8) (vI vs 9) (vL vs 10) (vL vs 11) (vL vs 12) (vS vs 13)
def g37 (xs : List DV) : Bool × List DV × List (List D) := gOf zr37 zo37 (argsT A37 v37 xs)
/-- spec.l3Place -/
def t80 (n1 : Int) (n2 : Int) : Rs :=
  if n1 == (0 : Int) then
   some ([.one (.b (n2 == (0 : Int)))], [])
  else
   let y1 := t35 n1 (1 : Int) (100000 : Int)
   chk (okR zr35 zo35 y1) <|
   let y2 := t35 n2 (1 : Int) (100000 : Int)
   let y3 := asB (resC y1 0 0)
   chk ((okR zr35 zo35 y2) || !y3) <|
   some ([.one (.b (y3 && (asB (resC y2 0 0))))], [])
def zr80 : List DV := [.one (.b false)]
def zo80 : List (List D) := []
def A80 : List TA := [.one (.i .i64), .one (.i .i64)]
def v80 (vs : List Vr) : Rs := t80 (vI vs 0) (vI vs 1)
def g80 (xs : List DV) : Bool × List DV × List (List D) := gOf zr80 zo80 (argsT A80 v80 xs)
def l36o1 (n23 : Int) (n24 : Int) (n25 : Int) (n26 : Int) (s27 : ByteArray) (l28 : List (List D)) (b29 : Bool) (b32 : Bool) (n35 : Int) (n36 : Int) (n37 : Int) (n38 : Int) (s39 : ByteArray) (l40 : List (List D)) (q1 : Int → Int → Bool → Bool → Int → ByteArray → Rs) (q2 : Int → Int → Bool → SV → Rs) : Nat → Int → Int → SV → SV → Rs
  | 0, _, _, _, _ => none
  | m + 1, n30, n31, v33, v34 =>
    let y1 := decide (n31 < (l40.length : Int))
    if y1 then
     let y2 := l40.getD n31.toNat []
     chk (decide (0 ≤ n31) && decide (n31 < l40.length) && isRow z129 y2) <|
     let y3 := asI (nthD y2 0)
     let y4 := asS (nthD y2 1)
     let y5 := (((decide (y3 < (1 : Int))) || (decide (y3 < n30))) || (decide (y3 > n35))) || (decide ((y4.size : Int) > (1600 : Int)))
     if y5 then
      q1 n30 n31 y1 y5 y3 y4
     else
      l36o1 n23 n24 n25 n26 s27 l28 b29 b32 n35 n36 n37 n38 s39 l40 q1 q2 m y3 (w64 (n31 + (1 : Int))) (.d (.b y1)) (.d (.b y5))
    else
     q2 n30 n31 y1 (keepV [64] v34)
/-- spec.KeptOk -/
def t36 (n1 : Int) (n2 : Int) (n3 : Int) (n4 : Int) (s5 : ByteArray) (l6 : List (List D)) : Rs :=
  let y1 := t35 n1 (0 : Int) (100000 : Int)
  chk (okR zr35 zo35 y1) <|
  let y2 := t35 n2 (-1 : Int) (4 : Int)
  let y3 := !(asB (resC y1 0 0))
  chk ((okR zr35 zo35 y2) || !(!y3)) <|
  let y4 := y3 || (!(asB (resC y2 0 0)))
  chk ((okR zr80 zo80 (t80 n3 n4)) || !(!y4)) <|
  let y5 := (((((y4 || (!(asB (resC (t80 n3 n4) 0 0)))) || ((n3 == (0 : Int)) && (!(s5.toList == (⟨#[]⟩ : ByteArray).toList)))) || (decide ((s5.size : Int) > (20000 : Int)))) || (decide (n4 > n1))) || (decide ((l6.length : Int) > (60 : Int)))) || (decide ((w64 (n3 + (l6.length : Int))) > (100000 : Int)))
  if y5 then
   some ([.one (.b false)], [])
  else
   l36o1 n1 n2 n3 n4 s5 l6 false y5 n1 n2 n3 n4 s5 l6
    (fun (n69 : Int) (n70 : Int) (b71 : Bool) (b72 : Bool) (n73 : Int) (s74 : ByteArray) =>
     some ([.one (.b false)], []))
    (fun (n75 : Int) (n76 : Int) (b77 : Bool) (v78 : SV) =>
     some ([.one (.b true)], [])) KK n4 (0 : Int) SV.undef SV.undef
def zr36 : List DV := [.one (.b false)]
def zo36 : List (List D) := []
def A36 : List TA := [.agg [.i .i64, .i .i64, .i .i64, .i .i64, .s, .l]]
def v36 (vs : List Vr) : Rs := t36 (vI vs 0) (vI vs 1) (vI vs 2) (vI vs 3) (vS vs 4) (vL vs 5)
def g36 (xs : List DV) : Bool × List DV × List (List D) := gOf zr36 zo36 (argsT A36 v36 xs)
/-- spec.l13Last -/
def t38 (n1 : Int) (n2 : Int) (n3 : Int) (n4 : Int) (n5 : Int) (n6 : Int) (n7 : Int) (n8 : Int) (l9 : List (List D)) (n10 : Int) (l11 : List (List D)) (l12 : List (List D)) (l13 : List (List D)) : Rs :=
  some ([.one (.i .i64 (w64 (n7 + (l9.length : Int))))], [])
def zr38 : List DV := [.one (.i .i64 0)]
def zo38 : List (List D) := []
def A38 : List TA := [.agg [.i .i64, .i .i64, .i .i64, .i .i64, .i .i64, .i .i64, .i .i64, .i .i64, .l, .i .i64, .l, .l, .l]]
def v38 (vs : List Vr) : Rs := t38 (vI vs 0) (vI vs 1) (vI vs 2) (vI vs 3) (vI vs 4) (vI vs 5) (vI vs 6) (vI vs 7) (vL vs 8) (vI vs 9) (vL vs 10) (vL vs 11) (vL vs 12)
def g38 (xs : List DV) : Bool × List DV × List (List D) := gOf zr38 zo38 (argsT A38 v38 xs)
def l39o0 (l7 : List (List D)) (n8 : Int) (b9 : Bool) (q1 : Int → Bool → Bool → Rs) (q2 : Int → Bool → SV → Rs) : Nat → Int → SV → SV → Rs
  | 0, _, _, _ => none
  | m + 1, n10, v11, v12 =>
    let y1 := decide (n10 < (l7.length : Int))
    if y1 then
     let y2 := l7.getD n10.toNat []
     chk (decide (0 ≤ n10) && decide (n10 < l7.length) && isRow z3 y2) <|
     let y3 := (asI (nthD y2 0)) == n8
     if y3 then
      q1 n10 y1 y3
     else
      l39o0 l7 n8 b9 q1 q2 m (w64 (n10 + (1 : Int))) (.d (.b y1)) (.d (.b y3))
    else
     q2 n10 y1 (keepV [] v12)
/-- spec.l13In -/
def t39 (l1 : List (List D)) (n2 : Int) : Rs :=
  l39o0 l1 n2 false
   (fun (n25 : Int) (b26 : Bool) (b27 : Bool) =>
    some ([.one (.b true)], []))
   (fun (n28 : Int) (b29 : Bool) (v30 : SV) =>
    some ([.one (.b false)], [])) KK (0 : Int) SV.undef SV.undef
def zr39 : List DV := [.one (.b false)]
def zo39 : List (List D) := []
def A39 : List TA := [.one (.l), .one (.i .i64)]
def v39 (vs : List Vr) : Rs := t39 (vL vs 0) (vI vs 1)
def g39 (xs : List DV) : Bool × List DV × List (List D) := gOf zr39 zo39 (argsT A39 v39 xs)
def l10o8 (n164 : Int) (n165 : Int) (n166 : Int) (n167 : Int) (n168 : Int) (n169 : Int) (n170 : Int) (n171 : Int) (l172 : List (List D)) (n173 : Int) (l174 : List (List D)) (l175 : List (List D)) (l176 : List (List D)) (b177 : Bool) (b179 : Bool) (n180 : Int) (b181 : Bool) (b182 : Bool) (b183 : Bool) (b184 : Bool) (n187 : Int) (n188 : Int) (n189 : Int) (n190 : Int) (n191 : Int) (n192 : Int) (n193 : Int) (n194 : Int) (l195 : List (List D)) (n196 : Int) (l197 : List (List D)) (l198 : List (List D)) (l199 : List (List D)) (l200 : List (List D)) (q1 : Int → Bool → Bool → Rs) (q2 : Int → Bool → SV → Rs) : Nat → Int → SV → SV → Rs
  | 0, _, _, _ => none
  | m + 1, n178, v185, v186 =>
    let y1 := decide (n178 < n188)
    if y1 then
     let y2 := l199.getD n178.toNat []
     chk (decide (0 ≤ n178) && decide (n178 < l199.length) && isRow z3 y2) <|
     let y3 := l198.getD n178.toNat []
     let y4 := decide ((asI (nthD y2 0)) < (0 : Int))
     chk ((decide (0 ≤ n178) && decide (n178 < l198.length) && isRow z3 y3) || !(!y4)) <|
     let y5 := l199.getD n178.toNat []
     chk ((decide (0 ≤ n178) && decide (n178 < l199.length) && isRow z3 y5) || !(!y4)) <|
     let y6 := l198.getD n178.toNat []
     let y7 := y4 || (decide ((asI (nthD y3 0)) ≤ (asI (nthD y5 0))))
     chk ((decide (0 ≤ n178) && decide (n178 < l198.length) && isRow z3 y6) || !(!y7)) <|
     let y8 := t38 n187 n188 n189 n190 n191 n192 n193 n194 l195 n196 l197 l198 l199
     chk ((okR zr38 zo38 y8) || !(!y7)) <|
     let y9 := y7 || (decide ((asI (nthD y6 0)) > (w64 ((asI (resC y8 0 0)) + (1 : Int)))))
     if y9 then
      q1 n178 y1 y9
     else
      l10o8 n164 n165 n166 n167 n168 n169 n170 n171 l172 n173 l174 l175 l176 b177 b179 n180 b181 b182 b183 b184 n187 n188 n189 n190 n191 n192 n193 n194 l195 n196 l197 l198 l199 l200 q1 q2 m (w64 (n178 + (1 : Int))) (.d (.b y1)) (.d (.b y9))
    else
     q2 n178 y1 (keepV [64, 1925] v186)
def l10o3 (n47 : Int) (n48 : Int) (n49 : Int) (n50 : Int) (n51 : Int) (n52 : Int) (n53 : Int) (n54 : Int) (l55 : List (List D)) (n56 : Int) (l57 : List (List D)) (l58 : List (List D)) (l59 : List (List D)) (b60 : Bool) (b62 : Bool) (n63 : Int) (b64 : Bool) (b65 : Bool) (n68 : Int) (n69 : Int) (n70 : Int) (n71 : Int) (n72 : Int) (n73 : Int) (n74 : Int) (n75 : Int) (l76 : List (List D)) (n77 : Int) (l78 : List (List D)) (l79 : List (List D)) (l80 : List (List D)) (l81 : List (List D)) (q1 : Int → Bool → Bool → Rs) (q2 : Int → Bool → SV → Rs) : Nat → Int → SV → SV → Rs
  | 0, _, _, _ => none
  | m + 1, n61, v66, v67 =>
    let y1 := decide (n61 < (l78.length : Int))
    if y1 then
     let y2 := l78.getD n61.toNat []
     chk (decide (0 ≤ n61) && decide (n61 < l78.length) && isRow z3 y2) <|
     let y3 := t35 (asI (nthD y2 0)) (0 : Int) (w64 (n69 - (1 : Int)))
     chk (okR zr35 zo35 y3) <|
     let y4 := w64 (n61 - (1 : Int))
     let y5 := l78.getD y4.toNat []
     let y6 := !(asB (resC y3 0 0))
     let y7 := !y6
     let y8 := decide (n61 > (0 : Int))
     chk ((decide (0 ≤ y4) && decide (y4 < l78.length) && isRow z3 y5) || !(y7 && y8)) <|
     let y9 := l78.getD n61.toNat []
     chk ((decide (0 ≤ n61) && decide (n61 < l78.length) && isRow z3 y9) || !(y7 && y8)) <|
     let y10 := y6 || (y8 && (decide ((asI (nthD y5 0)) ≥ (asI (nthD y9 0)))))
     if y10 then
      q1 n61 y1 y10
     else
      l10o3 n47 n48 n49 n50 n51 n52 n53 n54 l55 n56 l57 l58 l59 b60 b62 n63 b64 b65 n68 n69 n70 n71 n72 n73 n74 n75 l76 n77 l78 l79 l80 l81 q1 q2 m (w64 (n61 + (1 : Int))) (.d (.b y1)) (.d (.b y10))
    else
     q2 n61 y1 (keepV [64, 1925] v67)
/-- spec.CoreOk -/
def t10 (n1 : Int) (n2 : Int) (n3 : Int) (n4 : Int) (n5 : Int) (n6 : Int) (n7 : Int) (n8 : Int) (l9 : List (List D)) (n10 : Int) (l11 : List (List D)) (l12 : List (List D)) (l13 : List (List D)) : Rs :=
  let y1 := t35 n2 (1 : Int) (5 : Int)
  chk (okR zr35 zo35 y1) <|
  let y2 := t35 n1 (0 : Int) (w64 (n2 - (1 : Int)))
  let y3 := !(asB (resC y1 0 0))
  chk ((okR zr35 zo35 y2) || !(!y3)) <|
  let y4 := (y3 || (!(asB (resC y2 0 0)))) || ((n7 == (0 : Int)) && (n8 != (0 : Int)))
  if !y4 then
   let y5 := t37 n1 n2 n3 n4 n5 n6 n7 n8 l9 n10 l11 l12 l13 (⟨#[]⟩ : ByteArray)
   chk (okR zr37 zo37 y5) <|
   let y6 := asL (resC y5 0 5)
   let y7 := t36 (asI (resC y5 0 0)) (asI (resC y5 0 1)) (asI (resC y5 0 2)) (asI (resC y5 0 3)) (asS (resC y5 0 4)) y6
   chk ((okR zr36 zo36 y7) || !(!y4)) <|
   let y8 := t38 n1 n2 n3 n4 n5 n6 n7 n8 l9 n10 l11 l12 l13
   let y9 := (y4 || (!(asB (resC y7 0 0)))) || (decide (n4 ≥ n2))
   chk ((okR zr38 zo38 y8) || !(!y9)) <|
   let y10 := t35 n10 n7 (asI (resC y8 0 0))
   chk ((okR zr35 zo35 y10) || !(!y9)) <|
   let y11 := y9 || (!(asB (resC y10 0 0)))
   if y11 then
    some ([.one (.b false)], [])
   else
    let y12 := n5 == (1 : Int)
    if y12 then
     let y13 := t35 n6 (-1 : Int) (w64 (n2 - (1 : Int)))
     chk (okR zr35 zo35 y13) <|
     some ([.one (.b (((((asB (resC y13 0 0)) && (n6 != n1)) && ((l11.length : Int) == (0 : Int))) && ((l12.length : Int) == (0 : Int))) && ((l13.length : Int) == (0 : Int))))], [])
    else
     let y14 := n5 == (2 : Int)
     if y14 then
      l10o3 n1 n2 n3 n4 n5 n6 n7 n8 l9 n10 l11 l12 l13 false y11 n5 y12 y14 n1 n2 n3 n4 n5 n6 n7 n8 l9 n10 l11 l12 l13 y6
       (fun (n123 : Int) (b124 : Bool) (b125 : Bool) =>
        some ([.one (.b false)], []))
       (fun (n126 : Int) (b127 : Bool) (v128 : SV) =>
        let y15 := ((decide (n3 ≥ (1 : Int))) && (n4 == n1)) && (n6 == (-1 : Int))
        chk ((okR zr39 zo39 (t39 l11 n1)) || !y15) <|
        some ([.one (.b ((((y15 && (asB (resC (t39 l11 n1) 0 0))) && (decide ((w64 ((2 : Int) * (l11.length : Int))) ≤ n2))) && ((l12.length : Int) == (0 : Int))) && ((l13.length : Int) == (0 : Int))))], [])) KK (0 : Int) SV.undef SV.undef
     else
      let y16 := n5 == (3 : Int)
      if y16 then
       let y17 := l13.getD n1.toNat []
       let y18 := (((((decide (n3 < (1 : Int))) || (n4 != n1)) || (n6 != n1)) || (decide ((l11.length : Int) > (0 : Int)))) || ((l12.length : Int) != n2)) || ((l13.length : Int) != n2)
       chk ((decide (0 ≤ n1) && decide (n1 < l13.length) && isRow z3 y17) || !(!y18)) <|
       let y19 := t38 n1 n2 n3 n4 n5 n6 n7 n8 l9 n10 l11 l12 l13
       chk ((okR zr38 zo38 y19) || !(!y18)) <|
       let y20 := y18 || ((asI (nthD y17 0)) != (asI (resC y19 0 0)))
       if y20 then
        some ([.one (.b false)], [])
       else
        l10o8 n1 n2 n3 n4 n5 n6 n7 n8 l9 n10 l11 l12 l13 false y11 n5 y12 y14 y16 y20 n1 n2 n3 n4 n5 n6 n7 n8 l9 n10 l11 l12 l13 y6
         (fun (n244 : Int) (b245 : Bool) (b246 : Bool) =>
          some ([.one (.b false)], []))
         (fun (n247 : Int) (b248 : Bool) (v249 : SV) =>
          some ([.one (.b true)], [])) KK (0 : Int) SV.undef SV.undef
      else
       some ([.one (.b false)], [])
  else
   if !y4 then
    none
   else
    if !y4 then
     none
    else
     chk (y4) <|
     let y21 := t38 n1 n2 n3 n4 n5 n6 n7 n8 l9 n10 l11 l12 l13
     chk ((okR zr38 zo38 y21) || !false) <|
     chk ((okR zr35 zo35 (t35 n10 n7 (asI (resC y21 0 0)))) || !false) <|
     some ([.one (.b false)], [])
def zr10 : List DV := [.one (.b false)]
def zo10 : List (List D) := []
def A10 : List TA := [.agg [.i .i64, .i .i64, .i .i64, .i .i64, .i .i64, .i .i64, .i .i64, .i .i64, .l, .i .i64, .l, .l, .l]]
def v10 (vs : List Vr) : Rs := t10 (vI vs 0) (vI vs 1) (vI vs 2) (vI vs 3) (vI vs 4) (vI vs 5) (vI vs 6) (vI vs 7) (vL vs 8) (vI vs 9) (vL vs 10) (vL vs 11) (vL vs 12)
def g10 (xs : List DV) : Bool × List DV × List (List D) := gOf zr10 zo10 (argsT A10 v10 xs)
/-- impl.within -/
def t42 (n1 : Int) (n2 : Int) (n3 : Int) : Rs :=
  some ([.one (.b ((decide (n1 ≥ n2)) && (decide (n1 ≤ n3))))], [])
def zr42 : List DV := [.one (.b false)]
def zo42 : List (List D) := []
def A42 : List TA := [.one (.i .i64), .one (.i .i64), .one (.i .i64)]
def v42 (vs : List Vr) : Rs := t42 (vI vs 0) (vI vs 1) (vI vs 2)
def g42 (xs : List DV) : Bool × List DV × List (List D) := gOf zr42 zo42 (argsT A42 v42 xs)
/-- (*impl.Core).kept -/
def t44 (n1 : Int) (n2 : Int) (n3 : Int) (n4 : Int) (n5 : Int) (n6 : Int) (n7 : Int) (n8 : Int) (l9 : List (List D)) (n10 : Int) (l11 : List (List D)) (l12 : List (List D)) (l13 : List (List D)) (s14 : ByteArray) : Rs :=
  chk ((flatR 2 l9) && decide (l9.length ≤ lim)) <|
  let k1 := fun (n15 : Int) (n16 : Int) (s17 : ByteArray) =>
   some ([.agg [.i .i64 n3, .i .i64 n4, .i .i64 n15, .i .i64 n16, .s s17, .l l9]], [])
  if n7 != (0 : Int) then
   k1 n7 n8 s14
  else
   k1 (0 : Int) (0 : Int) (⟨#[]⟩ : ByteArray)
def zr44 : List DV := [.agg [.i .i64 0, .i .i64 0, .i .i64 0, .i .i64 0, .s ⟨#[]⟩, .l []]]
def zo44 : List (List D) := []
def A44 : List TA := [.ptr [.i .i64, .i .i64, .i .i64, .i .i64, .i .i64, .i .i64, .i .i64, .i .i64, .l, .i .i64, .l, .l, .l], .one (.s)]
def v44 (vs : List Vr) : Rs := t44 (vI vs 0) (vI vs 1) (vI vs 2) (vI vs 3) (vI vs 4) (vI vs 5) (vI vs 6) (vI vs 7) (vL vs 8) (vI vs 9) (vL vs 10) (vL vs 11) (vL vs 12) (vS vs 13)
def g44 (xs : List DV) : Bool × List DV × List (List D) := gOf zr44 zo44 (argsT A44 v44 xs)
def l43o2 (n26 : Int) (n27 : Int) (n28 : Int) (n29 : Int) (s30 : ByteArray) (l31 : List (List D)) (b32 : Bool) (b34 : Bool) (b35 : Bool) (l36 : List (List D)) (n37 : Int) (n41 : Int) (n42 : Int) (n43 : Int) (n44 : Int) (s45 : ByteArray) (l46 : List (List D)) (q1 : Int → Int → Bool → Bool → Int → ByteArray → Rs) (q2 : Int → Int → Bool → SV → Rs) : Nat → Int → Int → SV → SV → Rs
  | 0, _, _, _, _ => none
  | m + 1, n33, n38, v39, v40 =>
    let y1 := decide (n38 < n37)
    if y1 then
     let y2 := l36.getD n38.toNat []
     chk (decide (0 ≤ n38) && decide (n38 < l36.length) && isRow z129 y2) <|
     let y3 := asI (nthD y2 0)
     let y4 := t42 y3 n33 n41
     let y5 := asS (nthD y2 1)
     let y6 := decide ((y5.size : Int) > (1600 : Int))
     chk ((okR zr42 zo42 y4) || !(!y6)) <|
     let y7 := y6 || (!(asB (resC y4 0 0)))
     if y7 then
      q1 n33 n38 y1 y7 y3 y5
     else
      l43o2 n26 n27 n28 n29 s30 l31 b32 b34 b35 l36 n37 n41 n42 n43 n44 s45 l46 q1 q2 m y3 (w64 (n38 + (1 : Int))) (.d (.b y1)) (.d (.b y7))
    else
     q2 n33 n38 y1 (keepV [64] v40)
/-- impl.KeptOk -/
def t43 (n1 : Int) (n2 : Int) (n3 : Int) (n4 : Int) (s5 : ByteArray) (l6 : List (List D)) : Rs :=
  let y1 := t42 n1 (0 : Int) (100000 : Int)
  chk (okR zr42 zo42 y1) <|
  let y2 := t42 n2 (-1 : Int) (4 : Int)
  let y3 := !(asB (resC y1 0 0))
  chk ((okR zr42 zo42 y2) || !(!y3)) <|
  let y4 := (y3 || (!(asB (resC y2 0 0)))) || (decide ((l6.length : Int) > (60 : Int)))
  if y4 then
   some ([.one (.b false)], [])
  else
   let y5 := t42 n3 (1 : Int) (100000 : Int)
   let y6 := !((n3 == (0 : Int)) && ((n4 == (0 : Int)) && ((s5.toList == (⟨#[]⟩ : ByteArray).toList) && true)))
   chk ((okR zr42 zo42 y5) || !y6) <|
   let y7 := t42 n4 (1 : Int) n1
   let y8 := !(asB (resC y5 0 0))
   chk ((okR zr42 zo42 y7) || !(y6 && (!y8))) <|
   let y9 := y6 && ((y8 || (!(asB (resC y7 0 0)))) || (decide ((s5.size : Int) > (20000 : Int))))
   if y9 then
    some ([.one (.b false)], [])
   else
    l43o2 n1 n2 n3 n4 s5 l6 false y4 y9 l6 (l6.length : Int) n1 n2 n3 n4 s5 l6
     (fun (n78 : Int) (n79 : Int) (b80 : Bool) (b81 : Bool) (n82 : Int) (s83 : ByteArray) =>
      some ([.one (.b false)], []))
     (fun (n84 : Int) (n85 : Int) (b86 : Bool) (v87 : SV) =>
      some ([.one (.b (decide ((w64 (n3 + (l6.length : Int))) ≤ (100000 : Int))))], [])) KK (if n4 > (1 : Int) then n4 else (1 : Int)) (0 : Int) SV.undef SV.undef
def zr43 : List DV := [.one (.b false)]
def zo43 : List (List D) := []
def A43 : List TA := [.agg [.i .i64, .i .i64, .i .i64, .i .i64, .s, .l]]
def v43 (vs : List Vr) : Rs := t43 (vI vs 0) (vI vs 1) (vI vs 2) (vI vs 3) (vS vs 4) (vL vs 5)
def g43 (xs : List DV) : Bool × List DV × List (List D) := gOf zr43 zo43 (argsT A43 v43 xs)
/-- (*impl.Core).last -/
def t45 (n1 : Int) (n2 : Int) (n3 : Int) (n4 : Int) (n5 : Int) (n6 : Int) (n7 : Int) (n8 : Int) (l9 : List (List D)) (n10 : Int) (l11 : List (List D)) (l12 : List (List D)) (l13 : List (List D)) : Rs :=
  some ([.one (.i .i64 (w64 (n7 + (l9.length : Int))))], [])
def zr45 : List DV := [.one (.i .i64 0)]
def zo45 : List (List D) := []
def A45 : List TA := [.ptr [.i .i64, .i .i64, .i .i64, .i .i64, .i .i64, .i .i64, .i .i64, .i .i64, .l, .i .i64, .l, .l, .l]]
def v45 (vs : List Vr) : Rs := t45 (vI vs 0) (vI vs 1) (vI vs 2) (vI vs 3) (vI vs 4) (vI vs 5) (vI vs 6) (vI vs 7) (vL vs 8) (vI vs 9) (vL vs 10) (vL vs 11) (vL vs 12)
def g45 (xs : List DV) : Bool × List DV × List (List D) := gOf zr45 zo45 (argsT A45 v45 xs)
def l119o0 (l8 : List (List D)) (n9 : Int) (n10 : Int) (n12 : Int) (q1 : Int → Bool → Bool → Rs) (q2 : SV → Int → Bool → SV → Rs) : Nat → SV → Int → SV → SV → Rs
  | 0, _, _, _, _ => none
  | m + 1, v11, n13, v14, v15 =>
    let y1 := decide (n13 < n12)
    if y1 then
     let y2 := l8.getD n13.toNat []
     chk (decide (0 ≤ n13) && decide (n13 < l8.length) && isRow z3 y2) <|
     let y3 := n9 == (asI (nthD y2 0))
     if y3 then
      q1 n13 y1 y3
     else
      l119o0 l8 n9 n10 n12 q1 q2 m (.d (.i .i64 n13)) (w64 (n13 + (1 : Int))) (.d (.b y1)) (.d (.b y3))
    else
     q2 (keepV [] v11) n13 y1 (keepV [] v15)
/-- slices.Index[[]int,int] -/
def t119 (l1 : List (List D)) (n2 : Int) : Rs :=
  l119o0 l1 n2 (0 : Int) (l1.length : Int)
   (fun (n31 : Int) (b32 : Bool) (b33 : Bool) =>
    some ([.one (.i .i64 n31)], []))
   (fun (v34 : SV) (n35 : Int) (b36 : Bool) (v37 : SV) =>
    some ([.one (.i .i64 (-1 : Int))], [])) KK SV.undef (0 : Int) SV.undef SV.undef
def zr119 : List DV := [.one (.i .i64 0)]
def zo119 : List (List D) := []
def A119 : List TA := [.one (.l), .one (.i .i64)]
def v119 (vs : List Vr) : Rs := t119 (vL vs 0) (vI vs 1)
def g119 (xs : List DV) : Bool × List DV × List (List D) := gOf zr119 zo119 (argsT A119 v119 xs)
/-- slices.Contains[[]int,int] -/
def t82 (l1 : List (List D)) (n2 : Int) : Rs :=
  chk (okR zr119 zo119 (t119 l1 n2)) <|
  some ([.one (.b (decide ((asI (resC (t119 l1 n2) 0 0)) ≥ (0 : Int))))], [])
def zr82 : List DV := [.one (.b false)]
def zo82 : List (List D) := []
def A82 : List TA := [.one (.l), .one (.i .i64)]
def v82 (vs : List Vr) : Rs := t82 (vL vs 0) (vI vs 1)
def g82 (xs : List DV) : Bool × List DV × List (List D) := gOf zr82 zo82 (argsT A82 v82 xs)
/-- (*impl.Core).isMost -/
def t83 (n1 : Int) (n2 : Int) (n3 : Int) (n4 : Int) (n5 : Int) (n6 : Int) (n7 : Int) (n8 : Int) (l9 : List (List D)) (n10 : Int) (l11 : List (List D)) (l12 : List (List D)) (l13 : List (List D)) (n14 : Int) : Rs :=
  some ([.one (.b (decide ((w64 ((2 : Int) * n14)) > n2)))], [])
def zr83 : List DV := [.one (.b false)]
def zo83 : List (List D) := []
def A83 : List TA := [.ptr [.i .i64, .i .i64, .i .i64, .i .i64, .i .i64, .i .i64, .i .i64, .i .i64, .l, .i .i64, .l, .l, .l], .one (.i .i64)]
def v83 (vs : List Vr) : Rs := t83 (vI vs 0) (vI vs 1) (vI vs 2) (vI vs 3) (vI vs 4) (vI vs 5) (vI vs 6) (vI vs 7) (vL vs 8) (vI vs 9) (vL vs 10) (vL vs 11) (vL vs 12) (vI vs 13)
def g83 (xs : List DV) : Bool × List DV × List (List D) := gOf zr83 zo83 (argsT A83 v83 xs)
def l46o0 (n31 : Int) (n32 : Int) (n33 : Int) (n34 : Int) (n35 : Int) (n36 : Int) (n37 : Int) (n38 : Int) (l39 : List (List D)) (n40 : Int) (l41 : List (List D)) (l42 : List (List D)) (l43 : List (List D)) (b44 : Bool) (l47 : List (List D)) (n48 : Int) (q1 : Int → Int → Bool → Bool → Rs) (q2 : SV → SV → Int → Bool → SV → Rs) : Nat → SV → SV → Int → SV → SV → Rs
  | 0, _, _, _, _, _ => none
  | m + 1, v45, v46, n49, v50, v51 =>
    let y1 := decide (n49 < n48)
    if y1 then
     let y2 := l47.getD n49.toNat []
     chk (decide (0 ≤ n49) && decide (n49 < l47.length) && isRow z3 y2) <|
     let y3 := asI (nthD y2 0)
     let y4 := t42 y3 (0 : Int) (w64 (n32 - (1 : Int)))
     chk (okR zr42 zo42 y4) <|
     let y5 := w64 (n49 - (1 : Int))
     let y6 := l41.getD y5.toNat []
     let y7 := !(asB (resC y4 0 0))
     let y8 := decide (n49 > (0 : Int))
     chk ((decide (0 ≤ y5) && decide (y5 < l41.length) && isRow z3 y6) || !((!y7) && y8)) <|
     let y9 := y7 || (y8 && (decide ((asI (nthD y6 0)) ≥ y3)))
     if y9 then
      q1 n49 y3 y1 y9
     else
      l46o0 n31 n32 n33 n34 n35 n36 n37 n38 l39 n40 l41 l42 l43 b44 l47 n48 q1 q2 m (.d (.i .i64 n49)) (.d (.i .i64 y3)) (w64 (n49 + (1 : Int))) (.d (.b y1)) (.d (.b y9))
    else
     q2 (keepV [] v45) (keepV [] v46) n49 y1 (keepV [] v51)
/-- (*impl.Core).seekOk -/
def t46 (n1 : Int) (n2 : Int) (n3 : Int) (n4 : Int) (n5 : Int) (n6 : Int) (n7 : Int) (n8 : Int) (l9 : List (List D)) (n10 : Int) (l11 : List (List D)) (l12 : List (List D)) (l13 : List (List D)) : Rs :=
  l46o0 n1 n2 n3 n4 n5 n6 n7 n8 l9 n10 l11 l12 l13 false l11 (l11.length : Int)
   (fun (n82 : Int) (n83 : Int) (b84 : Bool) (b85 : Bool) =>
    some ([.one (.b false)], []))
   (fun (v86 : SV) (v87 : SV) (n88 : Int) (b89 : Bool) (v90 : SV) =>
    let y1 := ((decide (n3 ≥ (1 : Int))) && (n4 == n1)) && (n6 == (-1 : Int))
    chk ((okR zr82 zo82 (t82 l11 n1)) || !y1) <|
    let y2 := t83 n1 n2 n3 n4 n5 n6 n7 n8 l9 n10 l11 l12 l13 (l11.length : Int)
    let y3 := y1 && (asB (resC (t82 l11 n1) 0 0))
    chk ((okR zr83 zo83 y2) || !y3) <|
    some ([.one (.b ((y3 && (!(asB (resC y2 0 0)))) && ((w64 ((l12.length : Int) + (l13.length : Int))) == (0 : Int))))], [])) KK SV.undef SV.undef (0 : Int) SV.undef SV.undef
def zr46 : List DV := [.one (.b false)]
def zo46 : List (List D) := []
def A46 : List TA := [.ptr [.i .i64, .i .i64, .i .i64, .i .i64, .i .i64, .i .i64, .i .i64, .i .i64, .l, .i .i64, .l, .l, .l]]
def v46 (vs : List Vr) : Rs := t46 (vI vs 0) (vI vs 1) (vI vs 2) (vI vs 3) (vI vs 4) (vI vs 5) (vI vs 6) (vI vs 7) (vL vs 8) (vI vs 9) (vL vs 10) (vL vs 11) (vL vs 12)
def g46 (xs : List DV) : Bool × List DV × List (List D) := gOf zr46 zo46 (argsT A46 v46 xs)
def l47o1 (n32 : Int) (n33 : Int) (n34 : Int) (n35 : Int) (n36 : Int) (n37 : Int) (n38 : Int) (n39 : Int) (l40 : List (List D)) (n41 : Int) (l42 : List (List D)) (l43 : List (List D)) (l44 : List (List D)) (b45 : Bool) (b48 : Bool) (l49 : List (List D)) (n50 : Int) (q1 : Int → Int → Bool → Bool → Rs) (q2 : SV → SV → Int → Bool → SV → Rs) : Nat → SV → SV → Int → SV → SV → Rs
  | 0, _, _, _, _, _ => none
  | m + 1, v46, v47, n51, v52, v53 =>
    let y1 := decide (n51 < n50)
    if y1 then
     let y2 := l49.getD n51.toNat []
     chk (decide (0 ≤ n51) && decide (n51 < l49.length) && isRow z3 y2) <|
     let y3 := l43.getD n51.toNat []
     let y4 := asI (nthD y2 0)
     let y5 := decide (y4 < (0 : Int))
     chk ((decide (0 ≤ n51) && decide (n51 < l43.length) && isRow z3 y3) || !(!y5)) <|
     let y6 := l43.getD n51.toNat []
     let y7 := y5 || (decide ((asI (nthD y3 0)) ≤ y4))
     chk ((decide (0 ≤ n51) && decide (n51 < l43.length) && isRow z3 y6) || !(!y7)) <|
     let y8 := t45 n32 n33 n34 n35 n36 n37 n38 n39 l40 n41 l42 l43 l44
     chk ((okR zr45 zo45 y8) || !(!y7)) <|
     let y9 := y7 || (decide ((asI (nthD y6 0)) > (w64 ((asI (resC y8 0 0)) + (1 : Int)))))
     if y9 then
      q1 n51 y4 y1 y9
     else
      l47o1 n32 n33 n34 n35 n36 n37 n38 n39 l40 n41 l42 l43 l44 b45 b48 l49 n50 q1 q2 m (.d (.i .i64 n51)) (.d (.i .i64 y4)) (w64 (n51 + (1 : Int))) (.d (.b y1)) (.d (.b y9))
    else
     q2 (keepV [] v46) (keepV [] v47) n51 y1 (keepV [] v53)
/-- (*impl.Core).leadOk -/
def t47 (n1 : Int) (n2 : Int) (n3 : Int) (n4 : Int) (n5 : Int) (n6 : Int) (n7 : Int) (n8 : Int) (l9 : List (List D)) (n10 : Int) (l11 : List (List D)) (l12 : List (List D)) (l13 : List (List D)) : Rs :=
  let y1 := (((((decide (n3 < (1 : Int))) || (n4 != n1)) || (n6 != n1)) || (decide ((l11.length : Int) > (0 : Int)))) || ((l12.length : Int) != n2)) || ((l13.length : Int) != n2)
  if y1 then
   some ([.one (.b false)], [])
  else
   l47o1 n1 n2 n3 n4 n5 n6 n7 n8 l9 n10 l11 l12 l13 false y1 l13 (l13.length : Int)
    (fun (n85 : Int) (n86 : Int) (b87 : Bool) (b88 : Bool) =>
     some ([.one (.b false)], []))
    (fun (v89 : SV) (v90 : SV) (n91 : Int) (b92 : Bool) (v93 : SV) =>
     let y2 := l13.getD n1.toNat []
     chk (decide (0 ≤ n1) && decide (n1 < l13.length) && isRow z3 y2) <|
     let y3 := t45 n1 n2 n3 n4 n5 n6 n7 n8 l9 n10 l11 l12 l13
     chk (okR zr45 zo45 y3) <|
     some ([.one (.b ((asI (nthD y2 0)) == (asI (resC y3 0 0))))], [])) KK SV.undef SV.undef (0 : Int) SV.undef SV.undef
def zr47 : List DV := [.one (.b false)]
def zo47 : List (List D) := []
def A47 : List TA := [.ptr [.i .i64, .i .i64, .i .i64, .i .i64, .i .i64, .i .i64, .i .i64, .i .i64, .l, .i .i64, .l, .l, .l]]
def v47 (vs : List Vr) : Rs := t47 (vI vs 0) (vI vs 1) (vI vs 2) (vI vs 3) (vI vs 4) (vI vs 5) (vI vs 6) (vI vs 7) (vL vs 8) (vI vs 9) (vL vs 10) (vL vs 11) (vL vs 12)
def g47 (xs : List DV) : Bool × List DV × List (List D) := gOf zr47 zo47 (argsT A47 v47 xs)
/-- impl.CoreOk -/
def t12 (n1 : Int) (n2 : Int) (n3 : Int) (n4 : Int) (n5 : Int) (n6 : Int) (n7 : Int) (n8 : Int) (l9 : List (List D)) (n10 : Int) (l11 : List (List D)) (l12 : List (List D)) (l13 : List (List D)) : Rs :=
  let y1 := t42 n2 (1 : Int) (5 : Int)
  chk (okR zr42 zo42 y1) <|
  let y2 := t42 n1 (0 : Int) (w64 (n2 - (1 : Int)))
  let y3 := !(asB (resC y1 0 0))
  chk ((okR zr42 zo42 y2) || !(!y3)) <|
  let y4 := (((y3 || (!(asB (resC y2 0 0)))) || (decide (n4 ≥ n2))) || (decide (n7 < (0 : Int)))) || ((n7 == (0 : Int)) && (n8 != (0 : Int)))
  if !y4 then
   let y5 := t44 n1 n2 n3 n4 n5 n6 n7 n8 l9 n10 l11 l12 l13 (⟨#[]⟩ : ByteArray)
   chk (okR zr44 zo44 y5) <|
   let y6 := t43 (asI (resC y5 0 0)) (asI (resC y5 0 1)) (asI (resC y5 0 2)) (asI (resC y5 0 3)) (asS (resC y5 0 4)) (asL (resC y5 0 5))
   chk ((okR zr43 zo43 y6) || !(!y4)) <|
   let y7 := t45 n1 n2 n3 n4 n5 n6 n7 n8 l9 n10 l11 l12 l13
   let y8 := y4 || (!(asB (resC y6 0 0)))
   chk ((okR zr45 zo45 y7) || !(!y8)) <|
   let y9 := t42 n10 n7 (asI (resC y7 0 0))
   chk ((okR zr42 zo42 y9) || !(!y8)) <|
   if y8 || (!(asB (resC y9 0 0))) then
    some ([.one (.b false)], [])
   else
    if n5 == (1 : Int) then
     let y10 := t42 n6 (-1 : Int) (w64 (n2 - (1 : Int)))
     chk (okR zr42 zo42 y10) <|
     some ([.one (.b (((asB (resC y10 0 0)) && (n6 != n1)) && ((w64 ((w64 ((l11.length : Int) + (l12.length : Int))) + (l13.length : Int))) == (0 : Int))))], [])
    else
     if n5 == (2 : Int) then
      let y11 := t46 n1 n2 n3 n4 n5 n6 n7 n8 l9 n10 l11 l12 l13
      chk (okR zr46 zo46 y11) <|
      some ([.one (.b (asB (resC y11 0 0)))], [])
     else
      if n5 == (3 : Int) then
       let y12 := t47 n1 n2 n3 n4 n5 n6 n7 n8 l9 n10 l11 l12 l13
       chk (okR zr47 zo47 y12) <|
       some ([.one (.b (asB (resC y12 0 0)))], [])
      else
       some ([.one (.b false)], [])
  else
   if !y4 then
    none
   else
    if !y4 then
     none
    else
     chk (y4) <|
     let y13 := t45 n1 n2 n3 n4 n5 n6 n7 n8 l9 n10 l11 l12 l13
     chk ((okR zr45 zo45 y13) || !false) <|
     chk ((okR zr42 zo42 (t42 n10 n7 (asI (resC y13 0 0)))) || !false) <|
     some ([.one (.b false)], [])
def zr12 : List DV := [.one (.b false)]
def zo12 : List (List D) := []
def A12 : List TA := [.agg [.i .i64, .i .i64, .i .i64, .i .i64, .i .i64, .i .i64, .i .i64, .i .i64, .l, .i .i64, .l, .l, .l]]
def v12 (vs : List Vr) : Rs := t12 (vI vs 0) (vI vs 1) (vI vs 2) (vI vs 3) (vI vs 4) (vI vs 5) (vI vs 6) (vI vs 7) (vL vs 8) (vI vs 9) (vL vs 10) (vL vs 11) (vL vs 12)
def g12 (xs : List DV) : Bool × List DV × List (List D) := gOf zr12 zo12 (argsT A12 v12 xs)
/-- laws.eqEntry -/
def t84 (n1 : Int) (s2 : ByteArray) (n3 : Int) (s4 : ByteArray) : Rs :=
  if n1 != n3 then
   some ([.one (.b false)], [])
  else
   if !(s2.toList == s4.toList) then
    some ([.one (.b false)], [])
   else
    some ([.one (.b true)], [])
def zr84 : List DV := [.one (.b false)]
def zo84 : List (List D) := []
def A84 : List TA := [.agg [.i .i64, .s], .agg [.i .i64, .s]]
def v84 (vs : List Vr) : Rs := t84 (vI vs 0) (vS vs 1) (vI vs 2) (vS vs 3)
def g84 (xs : List DV) : Bool × List DV × List (List D) := gOf zr84 zo84 (argsT A84 v84 xs)
def l48o1 (l8 : List (List D)) (l9 : List (List D)) (b10 : Bool) (b12 : Bool) (q1 : Int → Bool → Bool → Rs) (q2 : Int → Bool → SV → Rs) : Nat → Int → SV → SV → Rs
  | 0, _, _, _ => none
  | m + 1, n11, v13, v14 =>
    let y1 := decide (n11 < (l8.length : Int))
    if y1 then
     let y2 := l8.getD n11.toNat []
     chk (decide (0 ≤ n11) && decide (n11 < l8.length) && isRow z129 y2) <|
     let y3 := l9.getD n11.toNat []
     chk (decide (0 ≤ n11) && decide (n11 < l9.length) && isRow z129 y3) <|
     let y4 := t84 (asI (nthD y2 0)) (asS (nthD y2 1)) (asI (nthD y3 0)) (asS (nthD y3 1))
     chk (okR zr84 zo84 y4) <|
     let y5 := !(asB (resC y4 0 0))
     if y5 then
      q1 n11 y1 y5
     else
      l48o1 l8 l9 b10 b12 q1 q2 m (w64 (n11 + (1 : Int))) (.d (.b y1)) (.d (.b y5))
    else
     q2 n11 y1 (keepV [] v14)
/-- laws.eqEntryS -/
def t48 (l1 : List (List D)) (l2 : List (List D)) : Rs :=
  let y1 := (l1.length : Int) != (l2.length : Int)
  if y1 then
   some ([.one (.b false)], [])
  else
   l48o1 l1 l2 false y1
    (fun (n28 : Int) (b29 : Bool) (b30 : Bool) =>
     some ([.one (.b false)], []))
    (fun (n31 : Int) (b32 : Bool) (v33 : SV) =>
     some ([.one (.b true)], [])) KK (0 : Int) SV.undef SV.undef
def zr48 : List DV := [.one (.b false)]
def zo48 : List (List D) := []
def A48 : List TA := [.one (.l), .one (.l)]
def v48 (vs : List Vr) : Rs := t48 (vL vs 0) (vL vs 1)
def g48 (xs : List DV) : Bool × List DV × List (List D) := gOf zr48 zo48 (argsT A48 v48 xs)
def l49o1 (l8 : List (List D)) (l9 : List (List D)) (b10 : Bool) (b12 : Bool) (q1 : Int → Bool → Bool → Rs) (q2 : Int → Bool → SV → Rs) : Nat → Int → SV → SV → Rs
  | 0, _, _, _ => none
  | m + 1, n11, v13, v14 =>
    let y1 := decide (n11 < (l8.length : Int))
    if y1 then
     let y2 := l8.getD n11.toNat []
     chk (decide (0 ≤ n11) && decide (n11 < l8.length) && isRow z3 y2) <|
     let y3 := l9.getD n11.toNat []
     chk (decide (0 ≤ n11) && decide (n11 < l9.length) && isRow z3 y3) <|
     let y4 := (asI (nthD y2 0)) != (asI (nthD y3 0))
     if y4 then
      q1 n11 y1 y4
     else
      l49o1 l8 l9 b10 b12 q1 q2 m (w64 (n11 + (1 : Int))) (.d (.b y1)) (.d (.b y4))
    else
     q2 n11 y1 (keepV [] v14)
/-- laws.eqIntS -/
def t49 (l1 : List (List D)) (l2 : List (List D)) : Rs :=
  let y1 := (l1.length : Int) != (l2.length : Int)
  if y1 then
   some ([.one (.b false)], [])
  else
   l49o1 l1 l2 false y1
    (fun (n28 : Int) (b29 : Bool) (b30 : Bool) =>
     some ([.one (.b false)], []))
    (fun (n31 : Int) (b32 : Bool) (v33 : SV) =>
     some ([.one (.b true)], [])) KK (0 : Int) SV.undef SV.undef
def zr49 : List DV := [.one (.b false)]
def zo49 : List (List D) := []
def A49 : List TA := [.one (.l), .one (.l)]
def v49 (vs : List Vr) : Rs := t49 (vL vs 0) (vL vs 1)
def g49 (xs : List DV) : Bool × List DV × List (List D) := gOf zr49 zo49 (argsT A49 v49 xs)
/-- laws.eqCore -/
def t13 (n1 : Int) (n2 : Int) (n3 : Int) (n4 : Int) (n5 : Int) (n6 : Int) (n7 : Int) (n8 : Int) (l9 : List (List D)) (n10 : Int) (l11 : List (List D)) (l12 : List (List D)) (l13 : List (List D)) (n14 : Int) (n15 : Int) (n16 : Int) (n17 : Int) (n18 : Int) (n19 : Int) (n20 : Int) (n21 : Int) (l22 : List (List D)) (n23 : Int) (l24 : List (List D)) (l25 : List (List D)) (l26 : List (List D)) : Rs :=
  if n1 != n14 then
   some ([.one (.b false)], [])
  else
   if n2 != n15 then
    some ([.one (.b false)], [])
   else
    if n3 != n16 then
     some ([.one (.b false)], [])
    else
     if n4 != n17 then
      some ([.one (.b false)], [])
     else
      if n5 != n18 then
       some ([.one (.b false)], [])
      else
       if n6 != n19 then
        some ([.one (.b false)], [])
       else
        if n7 != n20 then
         some ([.one (.b false)], [])
        else
         if n8 != n21 then
          some ([.one (.b false)], [])
         else
          chk (okR zr48 zo48 (t48 l9 l22)) <|
          if !(asB (resC (t48 l9 l22) 0 0)) then
           some ([.one (.b false)], [])
          else
           if n10 != n23 then
            some ([.one (.b false)], [])
           else
            chk (okR zr49 zo49 (t49 l11 l24)) <|
            if !(asB (resC (t49 l11 l24) 0 0)) then
             some ([.one (.b false)], [])
            else
             chk (okR zr49 zo49 (t49 l12 l25)) <|
             if !(asB (resC (t49 l12 l25) 0 0)) then
              some ([.one (.b false)], [])
             else
              chk (okR zr49 zo49 (t49 l13 l26)) <|
              if !(asB (resC (t49 l13 l26) 0 0)) then
               some ([.one (.b false)], [])
              else
               some ([.one (.b true)], [])
def zr13 : List DV := [.one (.b false)]
def zo13 : List (List D) := []
def A13 : List TA := [.agg [.i .i64, .i .i64, .i .i64, .i .i64, .i .i64, .i .i64, .i .i64, .i .i64, .l, .i .i64, .l, .l, .l], .agg [.i .i64, .i .i64, .i .i64, .i .i64, .i .i64, .i .i64, .i .i64, .i .i64, .l, .i .i64, .l, .l, .l]]
def v13 (vs : List Vr) : Rs := t13 (vI vs 0) (vI vs 1) (vI vs 2) (vI vs 3) (vI vs 4) (vI vs 5) (vI vs 6) (vI vs 7) (vL vs 8) (vI vs 9) (vL vs 10) (vL vs 11) (vL vs 12) (vI vs 13) (vI vs 14) (vI vs 15) (vI vs 16) (vI vs 17) (vI vs 18) (vI vs 19) (vI vs 20) (vL vs 21) (vI vs 22) (vL vs 23) (vL vs 24) (vL vs 25)
def g13 (xs : List DV) : Bool × List DV × List (List D) := gOf zr13 zo13 (argsT A13 v13 xs)
/-- laws.FnExactCoreOk -/
def t3 (n1 : Int) (n2 : Int) (n3 : Int) (n4 : Int) (n5 : Int) (n6 : Int) (n7 : Int) (n8 : Int) (l9 : List (List D)) (n10 : Int) (l11 : List (List D)) (l12 : List (List D)) (l13 : List (List D)) : Rs :=
  let y1 := t9 n1 n2 n3 n4 n5 n6 n7 n8 l9 n10 l11 l12 l13 (1048576 : Int)
  chk (okR zr9 zo9 y1) <|
  if decide ((asI (resC y1 0 0)) < (0 : Int)) then
   some ([.one (.b true)], [])
  else
   let y2 := t11 n1 n2 n3 n4 n5 n6 n7 n8 l9 n10 l11 l12 l13
   chk (okR zr11 zo11 y2) <|
   let y3 := t10 (asI (resC y2 0 0)) (asI (resC y2 0 1)) (asI (resC y2 0 2)) (asI (resC y2 0 3)) (asI (resC y2 0 4)) (asI (resC y2 0 5)) (asI (resC y2 0 6)) (asI (resC y2 0 7)) (asL (resC y2 0 8)) (asI (resC y2 0 9)) (asL (resC y2 0 10)) (asL (resC y2 0 11)) (asL (resC y2 0 12))
   chk (okR zr10 zo10 y3) <|
   let y4 := t11 n1 n2 n3 n4 n5 n6 n7 n8 l9 n10 l11 l12 l13
   chk (okR zr11 zo11 y4) <|
   let y5 := asI (resC y4 0 0)
   let y6 := asI (resC y4 0 1)
   let y7 := asI (resC y4 0 2)
   let y8 := asI (resC y4 0 3)
   let y9 := asI (resC y4 0 4)
   let y10 := asI (resC y4 0 5)
   let y11 := asI (resC y4 0 6)
   let y12 := asI (resC y4 0 7)
   let y13 := asL (resC y4 0 8)
   let y14 := asI (resC y4 0 9)
   let y15 := asL (resC y4 0 10)
   let y16 := asL (resC y4 0 11)
   let y17 := asL (resC y4 0 12)
   let y18 := t12 y5 y6 y7 y8 y9 y10 y11 y12 y13 y14 y15 y16 y17
   chk (okR zr12 zo12 y18) <|
   if !((asB (resC y18 0 0)) == (asB (resC y3 0 0))) then
    some ([.one (.b false)], [])
   else
    let y19 := t11 n1 n2 n3 n4 n5 n6 n7 n8 l9 n10 l11 l12 l13
    chk (okR zr11 zo11 y19) <|
    let y20 := t13 y5 y6 y7 y8 y9 y10 y11 y12 y13 y14 y15 y16 y17 (asI (resC y19 0 0)) (asI (resC y19 0 1)) (asI (resC y19 0 2)) (asI (resC y19 0 3)) (asI (resC y19 0 4)) (asI (resC y19 0 5)) (asI (resC y19 0 6)) (asI (resC y19 0 7)) (asL (resC y19 0 8)) (asI (resC y19 0 9)) (asL (resC y19 0 10)) (asL (resC y19 0 11)) (asL (resC y19 0 12))
    chk (okR zr13 zo13 y20) <|
    if !(asB (resC y20 0 0)) then
     some ([.one (.b false)], [])
    else
     some ([.one (.b true)], [])
def zr3 : List DV := [.one (.b false)]
def zo3 : List (List D) := []
def A3 : List TA := [.agg [.i .i64, .i .i64, .i .i64, .i .i64, .i .i64, .i .i64, .i .i64, .i .i64, .l, .i .i64, .l, .l, .l]]
def v3 (vs : List Vr) : Rs := t3 (vI vs 0) (vI vs 1) (vI vs 2) (vI vs 3) (vI vs 4) (vI vs 5) (vI vs 6) (vI vs 7) (vL vs 8) (vI vs 9) (vL vs 10) (vL vs 11) (vL vs 12)
def g3 (xs : List DV) : Bool × List DV × List (List D) := gOf zr3 zo3 (argsT A3 v3 xs)
end
end Go.Den.L3
