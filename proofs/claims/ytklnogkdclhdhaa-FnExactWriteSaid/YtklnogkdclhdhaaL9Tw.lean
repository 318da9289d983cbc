/- What the functions come to, as plain Lean. Printed by tw.py. -/
import Derived.Test.YtklnogkdclhdhaaDm7
set_option linter.unusedVariables false
namespace Go.Den.L9
open Go
noncomputable section
/-- The rounds that a loop is given: 2 ^ 64; so laid that nothing unfolds it. -/
noncomputable def KK : Nat := Classical.choose (⟨2 ^ 64, rfl⟩ : ∃ n : Nat, n = 2 ^ 64)
def w64 (x : Int) : Int := IntKind.wrap .i64 x
def chk (b : Bool) (x : Rs) : Rs := if b then x else none
def bitAnd (k : IntKind) (a b : Int) : Int := k.wrap (BitVec.ofInt k.bits a &&& BitVec.ofInt k.bits b).toNat
def bitOr (k : IntKind) (a b : Int) : Int := k.wrap (BitVec.ofInt k.bits a ||| BitVec.ofInt k.bits b).toNat
def bitXor (k : IntKind) (a b : Int) : Int := k.wrap (BitVec.ofInt k.bits a ^^^ BitVec.ofInt k.bits b).toNat
def stR (xs : List (List D)) (i off : Nat) (ys : List D) : List (List D) := xs.modify i fun r => r.take off ++ ys ++ r.drop (off + ys.length)
def z3 : List D := [.i .i64 0]
def z28 : List D := [.i .i64 0, .i .i64 0, .i .i64 0, .i .i64 0, .s ⟨#[]⟩]
def z38 : List D := [.i .i64 0, .i .i64 0, .i .i64 0, .i .i64 0, .s ⟨#[]⟩]
def z90 : List D := [.i .i64 0, .s ⟨#[]⟩]
def z105 : List D := [.i .i64 0, .s ⟨#[]⟩]
/-- laws.szSnap -/
def t49 (n1 : Int) (n2 : Int) (s3 : ByteArray) (n4 : Int) : Rs :=
  let y1 := w64 (n4 - (s3.size : Int))
  if decide (y1 < (0 : Int)) then
   some ([.one (.i .i64 (-1 : Int))], [])
  else
   some ([.one (.i .i64 y1)], [])
def zr49 : List DV := [.one (.i .i64 0)]
def zo49 : List (List D) := []
def A49 : List TA := [.agg [.i .i64, .i .i64, .s], .one (.i .i64)]
def v49 (vs : List Vr) : Rs := t49 (vI vs 0) (vI vs 1) (vS vs 2) (vI vs 3)
def g49 (xs : List DV) : Bool × List DV × List (List D) := gOf zr49 zo49 (argsT A49 v49 xs)
/-- laws.szEntry -/
def t82 (n1 : Int) (s2 : ByteArray) (n3 : Int) : Rs :=
  let y1 := w64 (n3 - (s2.size : Int))
  if decide (y1 < (0 : Int)) then
   some ([.one (.i .i64 (-1 : Int))], [])
  else
   some ([.one (.i .i64 y1)], [])
def zr82 : List DV := [.one (.i .i64 0)]
def zo82 : List (List D) := []
def A82 : List TA := [.agg [.i .i64, .s], .one (.i .i64)]
def v82 (vs : List Vr) : Rs := t82 (vI vs 0) (vS vs 1) (vI vs 2)
def g82 (xs : List DV) : Bool × List DV × List (List D) := gOf zr82 zo82 (argsT A82 v82 xs)
def l50o1 (l8 : List (List D)) (n10 : Int) (b12 : Bool) (q1 : Int → Int → Bool → Bool → Rs) (q2 : Int → Int → Bool → SV → Rs) : Nat → Int → Int → SV → SV → Rs
  | 0, _, _, _, _ => none
  | m + 1, n9, n11, v13, v14 =>
    let y1 := decide (n11 < (l8.length : Int))
    if y1 then
     let y2 := l8.getD n11.toNat []
     chk (decide (0 ≤ n11) && decide (n11 < l8.length) && isRow z105 y2) <|
     let y3 := t82 (asI (nthD y2 0)) (asS (nthD y2 1)) n9
     chk (okR zr82 zo82 y3) <|
     let y4 := asI (resC y3 0 0)
     let y5 := decide (y4 < (0 : Int))
     if y5 then
      q1 y4 n11 y1 y5
     else
      l50o1 l8 n10 b12 q1 q2 m y4 (w64 (n11 + (1 : Int))) (.d (.b y1)) (.d (.b y5))
    else
     q2 n9 n11 y1 (keepV [] v14)
/-- laws.szEntryS -/
def t50 (l1 : List (List D)) (n2 : Int) : Rs :=
  let y1 := w64 (n2 - (l1.length : Int))
  let y2 := decide (y1 < (0 : Int))
  if y2 then
   some ([.one (.i .i64 (-1 : Int))], [])
  else
   l50o1 l1 (0 : Int) y2
    (fun (n30 : Int) (n31 : Int) (b32 : Bool) (b33 : Bool) =>
     some ([.one (.i .i64 (-1 : Int))], []))
    (fun (n34 : Int) (n35 : Int) (b36 : Bool) (v37 : SV) =>
     some ([.one (.i .i64 n34)], [])) KK y1 (0 : Int) SV.undef SV.undef
def zr50 : List DV := [.one (.i .i64 0)]
def zo50 : List (List D) := []
def A50 : List TA := [.one (.l), .one (.i .i64)]
def v50 (vs : List Vr) : Rs := t50 (vL vs 0) (vI vs 1)
def g50 (xs : List DV) : Bool × List DV × List (List D) := gOf zr50 zo50 (argsT A50 v50 xs)
/-- laws.szKept -/
def t12 (n1 : Int) (n2 : Int) (n3 : Int) (n4 : Int) (s5 : ByteArray) (l6 : List (List D)) (n7 : Int) : Rs :=
  let y1 := t49 n3 n4 s5 n7
  chk (okR zr49 zo49 y1) <|
  let y2 := asI (resC y1 0 0)
  if decide (y2 < (0 : Int)) then
   some ([.one (.i .i64 (-1 : Int))], [])
  else
   let y3 := t50 l6 y2
   chk (okR zr50 zo50 y3) <|
   let y4 := asI (resC y3 0 0)
   if decide (y4 < (0 : Int)) then
    some ([.one (.i .i64 (-1 : Int))], [])
   else
    some ([.one (.i .i64 y4)], [])
def zr12 : List DV := [.one (.i .i64 0)]
def zo12 : List (List D) := []
def A12 : List TA := [.agg [.i .i64, .i .i64, .i .i64, .i .i64, .s, .l], .one (.i .i64)]
def v12 (vs : List Vr) : Rs := t12 (vI vs 0) (vI vs 1) (vI vs 2) (vI vs 3) (vS vs 4) (vL vs 5) (vI vs 6)
def g12 (xs : List DV) : Bool × List DV × List (List D) := gOf zr12 zo12 (argsT A12 v12 xs)
/-- laws.szRec -/
def t13 (n1 : Int) (n2 : Int) (n3 : Int) (n4 : Int) (s5 : ByteArray) (n6 : Int) : Rs :=
  let y1 := w64 (n6 - (s5.size : Int))
  if decide (y1 < (0 : Int)) then
   some ([.one (.i .i64 (-1 : Int))], [])
  else
   some ([.one (.i .i64 y1)], [])
def zr13 : List DV := [.one (.i .i64 0)]
def zo13 : List (List D) := []
def A13 : List TA := [.agg [.i .i64, .i .i64, .i .i64, .i .i64, .s], .one (.i .i64)]
def v13 (vs : List Vr) : Rs := t13 (vI vs 0) (vI vs 1) (vI vs 2) (vI vs 3) (vS vs 4) (vI vs 5)
def g13 (xs : List DV) : Bool × List DV × List (List D) := gOf zr13 zo13 (argsT A13 v13 xs)
def l39o1 (l8 : List (List D)) (n10 : Int) (b12 : Bool) (q1 : Int → Int → Bool → Bool → Rs) (q2 : Int → Int → Bool → SV → Rs) : Nat → Int → Int → SV → SV → Rs
  | 0, _, _, _, _ => none
  | m + 1, n9, n11, v13, v14 =>
    let y1 := decide (n11 < (l8.length : Int))
    if y1 then
     let y2 := l8.getD n11.toNat []
     chk (decide (0 ≤ n11) && decide (n11 < l8.length) && isRow z28 y2) <|
     let y3 := t13 (asI (nthD y2 0)) (asI (nthD y2 1)) (asI (nthD y2 2)) (asI (nthD y2 3)) (asS (nthD y2 4)) n9
     chk (okR zr13 zo13 y3) <|
     let y4 := asI (resC y3 0 0)
     let y5 := decide (y4 < (0 : Int))
     if y5 then
      q1 y4 n11 y1 y5
     else
      l39o1 l8 n10 b12 q1 q2 m y4 (w64 (n11 + (1 : Int))) (.d (.b y1)) (.d (.b y5))
    else
     q2 n9 n11 y1 (keepV [] v14)
/-- laws.szRecS -/
def t39 (l1 : List (List D)) (n2 : Int) : Rs :=
  let y1 := w64 (n2 - (l1.length : Int))
  let y2 := decide (y1 < (0 : Int))
  if y2 then
   some ([.one (.i .i64 (-1 : Int))], [])
  else
   l39o1 l1 (0 : Int) y2
    (fun (n30 : Int) (n31 : Int) (b32 : Bool) (b33 : Bool) =>
     some ([.one (.i .i64 (-1 : Int))], []))
    (fun (n34 : Int) (n35 : Int) (b36 : Bool) (v37 : SV) =>
     some ([.one (.i .i64 n34)], [])) KK y1 (0 : Int) SV.undef SV.undef
def zr39 : List DV := [.one (.i .i64 0)]
def zo39 : List (List D) := []
def A39 : List TA := [.one (.l), .one (.i .i64)]
def v39 (vs : List Vr) : Rs := t39 (vL vs 0) (vI vs 1)
def g39 (xs : List DV) : Bool × List DV × List (List D) := gOf zr39 zo39 (argsT A39 v39 xs)
/-- laws.szStore -/
def t21 (n1 : Int) (n2 : Int) (n3 : Int) (n4 : Int) (s5 : ByteArray) (l6 : List (List D)) (l7 : List (List D)) (n8 : Int) : Rs :=
  let y1 := t12 n1 n2 n3 n4 s5 l6 n8
  chk (okR zr12 zo12 y1) <|
  let y2 := asI (resC y1 0 0)
  if decide (y2 < (0 : Int)) then
   some ([.one (.i .i64 (-1 : Int))], [])
  else
   let y3 := t39 l7 y2
   chk (okR zr39 zo39 y3) <|
   let y4 := asI (resC y3 0 0)
   if decide (y4 < (0 : Int)) then
    some ([.one (.i .i64 (-1 : Int))], [])
   else
    some ([.one (.i .i64 y4)], [])
def zr21 : List DV := [.one (.i .i64 0)]
def zo21 : List (List D) := []
def A21 : List TA := [.agg [.i .i64, .i .i64, .i .i64, .i .i64, .s, .l, .l], .one (.i .i64)]
def v21 (vs : List Vr) : Rs := t21 (vI vs 0) (vI vs 1) (vI vs 2) (vI vs 3) (vS vs 4) (vL vs 5) (vL vs 6) (vI vs 7)
def g21 (xs : List DV) : Bool × List DV × List (List D) := gOf zr21 zo21 (argsT A21 v21 xs)
/-- laws.toSnap -/
def t54 (n1 : Int) (n2 : Int) (s3 : ByteArray) : Rs :=
  some ([.agg [.i .i64 n1, .i .i64 n2, .s s3]], [])
def zr54 : List DV := [.agg [.i .i64 0, .i .i64 0, .s ⟨#[]⟩]]
def zo54 : List (List D) := []
def A54 : List TA := [.agg [.i .i64, .i .i64, .s]]
def v54 (vs : List Vr) : Rs := t54 (vI vs 0) (vI vs 1) (vS vs 2)
def g54 (xs : List DV) : Bool × List DV × List (List D) := gOf zr54 zo54 (argsT A54 v54 xs)
/-- laws.toEntry -/
def t87 (n1 : Int) (s2 : ByteArray) : Rs :=
  some ([.agg [.i .i64 n1, .s s2]], [])
def zr87 : List DV := [.agg [.i .i64 0, .s ⟨#[]⟩]]
def zo87 : List (List D) := []
def A87 : List TA := [.agg [.i .i64, .s]]
def v87 (vs : List Vr) : Rs := t87 (vI vs 0) (vS vs 1)
def g87 (xs : List DV) : Bool × List DV × List (List D) := gOf zr87 zo87 (argsT A87 v87 xs)
def l55o0 (l5 : List (List D)) (q1 : Int → Bool → List (List D) → Rs) : Nat → Int → SV → List (List D) → Rs
  | 0, _, _, _ => none
  | m + 1, n6, v7, l8 =>
    let y1 := decide (n6 < (l5.length : Int))
    if y1 then
     let y2 := l5.getD n6.toNat []
     chk (decide (0 ≤ n6) && decide (n6 < l5.length) && isRow z105 y2) <|
     let y3 := t87 (asI (nthD y2 0)) (asS (nthD y2 1))
     chk (okR zr87 zo87 y3) <|
     chk (decide (0 ≤ n6) && decide (n6 < l8.length)) <|
     chk (decide (2 ≤ 2 ∧ (n6.toNat) < l8.length)) <|
     l55o0 l5 q1 m (w64 (n6 + (1 : Int))) (.d (.b y1)) (stR l8 (n6.toNat) 0 [.i .i64 (asI (resC y3 0 0)), .s (asS (resC y3 0 1))])
    else
     q1 n6 y1 l8
/-- laws.toEntryS -/
def t55 (l1 : List (List D)) : Rs :=
  let y1 := (l1.length : Int)
  chk (decide (0 ≤ y1 ∧ y1 ≤ lim ∧ y1 = y1)) <|
  l55o0 l1
   (fun (n16 : Int) (b17 : Bool) (l18 : List (List D)) =>
    some ([.one (.l l18)], [])) KK (0 : Int) SV.undef (List.replicate y1.toNat z90)
def zr55 : List DV := [.one (.l [])]
def zo55 : List (List D) := []
def A55 : List TA := [.one (.l)]
def v55 (vs : List Vr) : Rs := t55 (vL vs 0)
def g55 (xs : List DV) : Bool × List DV × List (List D) := gOf zr55 zo55 (argsT A55 v55 xs)
/-- laws.toKept -/
def t15 (n1 : Int) (n2 : Int) (n3 : Int) (n4 : Int) (s5 : ByteArray) (l6 : List (List D)) : Rs :=
  let y1 := t54 n3 n4 s5
  chk (okR zr54 zo54 y1) <|
  chk (okR zr55 zo55 (t55 l6)) <|
  some ([.agg [.i .i64 n1, .i .i64 n2, .i .i64 (asI (resC y1 0 0)), .i .i64 (asI (resC y1 0 1)), .s (asS (resC y1 0 2)), .l (asL (resC (t55 l6) 0 0))]], [])
def zr15 : List DV := [.agg [.i .i64 0, .i .i64 0, .i .i64 0, .i .i64 0, .s ⟨#[]⟩, .l []]]
def zo15 : List (List D) := []
def A15 : List TA := [.agg [.i .i64, .i .i64, .i .i64, .i .i64, .s, .l]]
def v15 (vs : List Vr) : Rs := t15 (vI vs 0) (vI vs 1) (vI vs 2) (vI vs 3) (vS vs 4) (vL vs 5)
def g15 (xs : List DV) : Bool × List DV × List (List D) := gOf zr15 zo15 (argsT A15 v15 xs)
/-- laws.toRec -/
def t16 (n1 : Int) (n2 : Int) (n3 : Int) (n4 : Int) (s5 : ByteArray) : Rs :=
  some ([.agg [.i .i64 n1, .i .i64 n2, .i .i64 n3, .i .i64 n4, .s s5]], [])
def zr16 : List DV := [.agg [.i .i64 0, .i .i64 0, .i .i64 0, .i .i64 0, .s ⟨#[]⟩]]
def zo16 : List (List D) := []
def A16 : List TA := [.agg [.i .i64, .i .i64, .i .i64, .i .i64, .s]]
def v16 (vs : List Vr) : Rs := t16 (vI vs 0) (vI vs 1) (vI vs 2) (vI vs 3) (vS vs 4)
def g16 (xs : List DV) : Bool × List DV × List (List D) := gOf zr16 zo16 (argsT A16 v16 xs)
def l41o0 (l5 : List (List D)) (q1 : Int → Bool → List (List D) → Rs) : Nat → Int → SV → List (List D) → Rs
  | 0, _, _, _ => none
  | m + 1, n6, v7, l8 =>
    let y1 := decide (n6 < (l5.length : Int))
    if y1 then
     let y2 := l5.getD n6.toNat []
     chk (decide (0 ≤ n6) && decide (n6 < l5.length) && isRow z28 y2) <|
     let y3 := t16 (asI (nthD y2 0)) (asI (nthD y2 1)) (asI (nthD y2 2)) (asI (nthD y2 3)) (asS (nthD y2 4))
     chk (okR zr16 zo16 y3) <|
     chk (decide (0 ≤ n6) && decide (n6 < l8.length)) <|
     chk (decide (5 ≤ 5 ∧ (n6.toNat) < l8.length)) <|
     l41o0 l5 q1 m (w64 (n6 + (1 : Int))) (.d (.b y1)) (stR l8 (n6.toNat) 0 [.i .i64 (asI (resC y3 0 0)), .i .i64 (asI (resC y3 0 1)), .i .i64 (asI (resC y3 0 2)), .i .i64 (asI (resC y3 0 3)), .s (asS (resC y3 0 4))])
    else
     q1 n6 y1 l8
/-- laws.toRecS -/
def t41 (l1 : List (List D)) : Rs :=
  let y1 := (l1.length : Int)
  chk (decide (0 ≤ y1 ∧ y1 ≤ lim ∧ y1 = y1)) <|
  l41o0 l1
   (fun (n16 : Int) (b17 : Bool) (l18 : List (List D)) =>
    some ([.one (.l l18)], [])) KK (0 : Int) SV.undef (List.replicate y1.toNat z38)
def zr41 : List DV := [.one (.l [])]
def zo41 : List (List D) := []
def A41 : List TA := [.one (.l)]
def v41 (vs : List Vr) : Rs := t41 (vL vs 0)
def g41 (xs : List DV) : Bool × List DV × List (List D) := gOf zr41 zo41 (argsT A41 v41 xs)
/-- laws.toStore -/
def t23 (n1 : Int) (n2 : Int) (n3 : Int) (n4 : Int) (s5 : ByteArray) (l6 : List (List D)) (l7 : List (List D)) : Rs :=
  let y1 := t15 n1 n2 n3 n4 s5 l6
  chk (okR zr15 zo15 y1) <|
  chk (okR zr41 zo41 (t41 l7)) <|
  some ([.agg [.i .i64 (asI (resC y1 0 0)), .i .i64 (asI (resC y1 0 1)), .i .i64 (asI (resC y1 0 2)), .i .i64 (asI (resC y1 0 3)), .s (asS (resC y1 0 4)), .l (asL (resC y1 0 5)), .l (asL (resC (t41 l7) 0 0))]], [])
def zr23 : List DV := [.agg [.i .i64 0, .i .i64 0, .i .i64 0, .i .i64 0, .s ⟨#[]⟩, .l [], .l []]]
def zo23 : List (List D) := []
def A23 : List TA := [.agg [.i .i64, .i .i64, .i .i64, .i .i64, .s, .l, .l]]
def v23 (vs : List Vr) : Rs := t23 (vI vs 0) (vI vs 1) (vI vs 2) (vI vs 3) (vS vs 4) (vL vs 5) (vL vs 6)
def g23 (xs : List DV) : Bool × List DV × List (List D) := gOf zr23 zo23 (argsT A23 v23 xs)
/-- spec.l1In -/
def t83 (n1 : Int) (n2 : Int) (n3 : Int) : Rs :=
  some ([.one (.b ((decide (n1 ≥ n2)) && (decide (n1 ≤ n3))))], [])
def zr83 : List DV := [.one (.b false)]
def zo83 : List (List D) := []
def A83 : List TA := [.one (.i .i64), .one (.i .i64), .one (.i .i64)]
def v83 (vs : List Vr) : Rs := t83 (vI vs 0) (vI vs 1) (vI vs 2)
def g83 (xs : List DV) : Bool × List DV × List (List D) := gOf zr83 zo83 (argsT A83 v83 xs)
/-- spec.l3Place -/
def t84 (n1 : Int) (n2 : Int) : Rs :=
  if n1 == (0 : Int) then
   some ([.one (.b (n2 == (0 : Int)))], [])
  else
   let y1 := t83 n1 (1 : Int) (100000 : Int)
   chk (okR zr83 zo83 y1) <|
   let y2 := t83 n2 (1 : Int) (100000 : Int)
   let y3 := asB (resC y1 0 0)
   chk ((okR zr83 zo83 y2) || !y3) <|
   some ([.one (.b (y3 && (asB (resC y2 0 0))))], [])
def zr84 : List DV := [.one (.b false)]
def zo84 : List (List D) := []
def A84 : List TA := [.one (.i .i64), .one (.i .i64)]
def v84 (vs : List Vr) : Rs := t84 (vI vs 0) (vI vs 1)
def g84 (xs : List DV) : Bool × List DV × List (List D) := gOf zr84 zo84 (argsT A84 v84 xs)
def l51o1 (n23 : Int) (n24 : Int) (n25 : Int) (n26 : Int) (s27 : ByteArray) (l28 : List (List D)) (b29 : Bool) (b32 : Bool) (n35 : Int) (n36 : Int) (n37 : Int) (n38 : Int) (s39 : ByteArray) (l40 : List (List D)) (q1 : Int → Int → Bool → Bool → Int → ByteArray → Rs) (q2 : Int → Int → Bool → SV → Rs) : Nat → Int → Int → SV → SV → Rs
  | 0, _, _, _, _ => none
  | m + 1, n30, n31, v33, v34 =>
    let y1 := decide (n31 < (l40.length : Int))
    if y1 then
     let y2 := l40.getD n31.toNat []
     chk (decide (0 ≤ n31) && decide (n31 < l40.length) && isRow z90 y2) <|
     let y3 := asI (nthD y2 0)
     let y4 := asS (nthD y2 1)
     let y5 := (((decide (y3 < (1 : Int))) || (decide (y3 < n30))) || (decide (y3 > n35))) || (decide ((y4.size : Int) > (1600 : Int)))
     if y5 then
      q1 n30 n31 y1 y5 y3 y4
     else
      l51o1 n23 n24 n25 n26 s27 l28 b29 b32 n35 n36 n37 n38 s39 l40 q1 q2 m y3 (w64 (n31 + (1 : Int))) (.d (.b y1)) (.d (.b y5))
    else
     q2 n30 n31 y1 (keepV [64] v34)
/-- spec.KeptOk -/
def t51 (n1 : Int) (n2 : Int) (n3 : Int) (n4 : Int) (s5 : ByteArray) (l6 : List (List D)) : Rs :=
  let y1 := t83 n1 (0 : Int) (100000 : Int)
  chk (okR zr83 zo83 y1) <|
  let y2 := t83 n2 (-1 : Int) (4 : Int)
  let y3 := !(asB (resC y1 0 0))
  chk ((okR zr83 zo83 y2) || !(!y3)) <|
  let y4 := y3 || (!(asB (resC y2 0 0)))
  chk ((okR zr84 zo84 (t84 n3 n4)) || !(!y4)) <|
  let y5 := (((((y4 || (!(asB (resC (t84 n3 n4) 0 0)))) || ((n3 == (0 : Int)) && (!(s5.toList == (⟨#[]⟩ : ByteArray).toList)))) || (decide ((s5.size : Int) > (20000 : Int)))) || (decide (n4 > n1))) || (decide ((l6.length : Int) > (60 : Int)))) || (decide ((w64 (n3 + (l6.length : Int))) > (100000 : Int)))
  if y5 then
   some ([.one (.b false)], [])
  else
   l51o1 n1 n2 n3 n4 s5 l6 false y5 n1 n2 n3 n4 s5 l6
    (fun (n69 : Int) (n70 : Int) (b71 : Bool) (b72 : Bool) (n73 : Int) (s74 : ByteArray) =>
     some ([.one (.b false)], []))
    (fun (n75 : Int) (n76 : Int) (b77 : Bool) (v78 : SV) =>
     some ([.one (.b true)], [])) KK n4 (0 : Int) SV.undef SV.undef
def zr51 : List DV := [.one (.b false)]
def zo51 : List (List D) := []
def A51 : List TA := [.agg [.i .i64, .i .i64, .i .i64, .i .i64, .s, .l]]
def v51 (vs : List Vr) : Rs := t51 (vI vs 0) (vI vs 1) (vI vs 2) (vI vs 3) (vS vs 4) (vL vs 5)
def g51 (xs : List DV) : Bool × List DV × List (List D) := gOf zr51 zo51 (argsT A51 v51 xs)
/-- spec.l3Copy -/
def t53 (n1 : Int) (n2 : Int) (n3 : Int) (n4 : Int) (s5 : ByteArray) (l6 : List (List D)) : Rs :=
  chk ((flatR 2 l6) && decide (([] : List (List D)).length + l6.length ≤ lim)) <|
  some ([.agg [.i .i64 n1, .i .i64 n2, .i .i64 n3, .i .i64 n4, .s s5, .l (([] : List (List D)) ++ l6)]], [])
def zr53 : List DV := [.agg [.i .i64 0, .i .i64 0, .i .i64 0, .i .i64 0, .s ⟨#[]⟩, .l []]]
def zo53 : List (List D) := []
def A53 : List TA := [.agg [.i .i64, .i .i64, .i .i64, .i .i64, .s, .l]]
def v53 (vs : List Vr) : Rs := t53 (vI vs 0) (vI vs 1) (vI vs 2) (vI vs 3) (vS vs 4) (vL vs 5)
def g53 (xs : List DV) : Bool × List DV × List (List D) := gOf zr53 zo53 (argsT A53 v53 xs)
/-- spec.RecOk -/
def t85 (n1 : Int) (n2 : Int) (n3 : Int) (n4 : Int) (s5 : ByteArray) : Rs :=
  if n1 == (1 : Int) then
   let y1 := t83 n2 (0 : Int) (100000 : Int)
   chk (okR zr83 zo83 y1) <|
   let y2 := t83 n4 (-1 : Int) (4 : Int)
   let y3 := asB (resC y1 0 0)
   chk ((okR zr83 zo83 y2) || !y3) <|
   some ([.one (.b (((y3 && (asB (resC y2 0 0))) && (n3 == (0 : Int))) && (s5.toList == (⟨#[]⟩ : ByteArray).toList)))], [])
  else
   if n1 == (2 : Int) then
    let y4 := t83 n2 (1 : Int) (100000 : Int)
    chk (okR zr83 zo83 y4) <|
    let y5 := t83 n3 (1 : Int) (100000 : Int)
    let y6 := asB (resC y4 0 0)
    chk ((okR zr83 zo83 y5) || !y6) <|
    some ([.one (.b (((y6 && (asB (resC y5 0 0))) && (n4 == (0 : Int))) && (decide ((s5.size : Int) ≤ (1600 : Int)))))], [])
   else
    if n1 == (3 : Int) then
     let y7 := t83 n3 (1 : Int) (100000 : Int)
     let y8 := n2 == (0 : Int)
     chk ((okR zr83 zo83 y7) || !y8) <|
     some ([.one (.b (((y8 && (asB (resC y7 0 0))) && (n4 == (0 : Int))) && (s5.toList == (⟨#[]⟩ : ByteArray).toList)))], [])
    else
     if n1 == (4 : Int) then
      let y9 := t83 n2 (1 : Int) (100000 : Int)
      chk (okR zr83 zo83 y9) <|
      let y10 := t83 n3 (1 : Int) (100000 : Int)
      let y11 := asB (resC y9 0 0)
      chk ((okR zr83 zo83 y10) || !y11) <|
      some ([.one (.b (((y11 && (asB (resC y10 0 0))) && (n4 == (0 : Int))) && (decide ((s5.size : Int) ≤ (20000 : Int)))))], [])
     else
      some ([.one (.b false)], [])
def zr85 : List DV := [.one (.b false)]
def zo85 : List (List D) := []
def A85 : List TA := [.agg [.i .i64, .i .i64, .i .i64, .i .i64, .s]]
def v85 (vs : List Vr) : Rs := t85 (vI vs 0) (vI vs 1) (vI vs 2) (vI vs 3) (vS vs 4)
def g85 (xs : List DV) : Bool × List DV × List (List D) := gOf zr85 zo85 (argsT A85 v85 xs)
/-- spec.l3LastTerm -/
def t94 (n1 : Int) (n2 : Int) (n3 : Int) (n4 : Int) (s5 : ByteArray) (l6 : List (List D)) : Rs :=
  if (l6.length : Int) == (0 : Int) then
   some ([.one (.i .i64 n4)], [])
  else
   let y1 := w64 ((l6.length : Int) - (1 : Int))
   let y2 := l6.getD y1.toNat []
   chk (decide (0 ≤ y1) && decide (y1 < l6.length) && isRow z90 y2) <|
   some ([.one (.i .i64 (asI (nthD y2 0)))], [])
def zr94 : List DV := [.one (.i .i64 0)]
def zo94 : List (List D) := []
def A94 : List TA := [.agg [.i .i64, .i .i64, .i .i64, .i .i64, .s, .l]]
def v94 (vs : List Vr) : Rs := t94 (vI vs 0) (vI vs 1) (vI vs 2) (vI vs 3) (vS vs 4) (vL vs 5)
def g94 (xs : List DV) : Bool × List DV × List (List D) := gOf zr94 zo94 (argsT A94 v94 xs)
/-- spec.l3Fits -/
def t86 (n1 : Int) (n2 : Int) (n3 : Int) (n4 : Int) (s5 : ByteArray) (l6 : List (List D)) (n7 : Int) (n8 : Int) (n9 : Int) (n10 : Int) (s11 : ByteArray) : Rs :=
  if n7 == (1 : Int) then
   some ([.one (.b ((decide (n8 > n1)) || ((n8 == n1) && ((n2 == (-1 : Int)) || (n10 == n2)))))], [])
  else
   if n7 == (2 : Int) then
    let y1 := t94 n1 n2 n3 n4 s5 l6
    let y2 := w64 (n3 + (l6.length : Int))
    let y3 := (n9 == (w64 (y2 + (1 : Int)))) && (decide ((l6.length : Int) < (60 : Int)))
    chk ((okR zr94 zo94 y1) || !y3) <|
    some ([.one (.b ((y3 && (decide (n8 ≥ (asI (resC y1 0 0))))) && (decide (n8 ≤ n1))))], [])
   else
    if n7 == (3 : Int) then
     let y4 := w64 (n3 + (l6.length : Int))
     some ([.one (.b ((decide (n9 > n3)) && (decide (n9 ≤ y4))))], [])
    else
     if n7 == (4 : Int) then
      some ([.one (.b ((decide (n9 > n3)) && (decide (n8 ≤ n1))))], [])
     else
      some ([.one (.b false)], [])
def zr86 : List DV := [.one (.b false)]
def zo86 : List (List D) := []
def A86 : List TA := [.agg [.i .i64, .i .i64, .i .i64, .i .i64, .s, .l], .agg [.i .i64, .i .i64, .i .i64, .i .i64, .s]]
def v86 (vs : List Vr) : Rs := t86 (vI vs 0) (vI vs 1) (vI vs 2) (vI vs 3) (vS vs 4) (vL vs 5) (vI vs 6) (vI vs 7) (vI vs 8) (vI vs 9) (vS vs 10)
def g86 (xs : List DV) : Bool × List DV × List (List D) := gOf zr86 zo86 (argsT A86 v86 xs)
/-- spec.l3Behind -/
def t65 (n1 : Int) (n2 : Int) (n3 : Int) (n4 : Int) (s5 : ByteArray) (l6 : List (List D)) (n7 : Int) (n8 : Int) : Rs :=
  let y1 := w64 (n7 - n3)
  let y2 := w64 (y1 - (1 : Int))
  let y3 := l6.getD y2.toNat []
  let y4 := (decide (y1 ≥ (1 : Int))) && (decide (y1 ≤ (l6.length : Int)))
  chk ((decide (0 ≤ y2) && decide (y2 < l6.length) && isRow z90 y3) || !y4) <|
  if y4 && ((asI (nthD y3 0)) == n8) then
   chk (decide (0 ≤ y1 ∧ y1 ≤ l6.length ∧ (l6.getD 0 z90).length = z90.length)) <|
   let y5 := l6.drop y1.toNat
   chk ((flatR 2 y5) && decide (([] : List (List D)).length + y5.length ≤ lim)) <|
   some ([.one (.l (([] : List (List D)) ++ y5))], [])
  else
   some ([.one (.l ([] : List (List D)))], [])
def zr65 : List DV := [.one (.l [])]
def zo65 : List (List D) := []
def A65 : List TA := [.agg [.i .i64, .i .i64, .i .i64, .i .i64, .s, .l], .one (.i .i64), .one (.i .i64)]
def v65 (vs : List Vr) : Rs := t65 (vI vs 0) (vI vs 1) (vI vs 2) (vI vs 3) (vS vs 4) (vL vs 5) (vI vs 6) (vI vs 7)
def g65 (xs : List DV) : Bool × List DV × List (List D) := gOf zr65 zo65 (argsT A65 v65 xs)
/-- spec.l3Step -/
def t52 (n1 : Int) (n2 : Int) (n3 : Int) (n4 : Int) (s5 : ByteArray) (l6 : List (List D)) (n7 : Int) (n8 : Int) (n9 : Int) (n10 : Int) (s11 : ByteArray) : Rs :=
  let y1 := t85 n7 n8 n9 n10 s11
  chk (okR zr85 zo85 y1) <|
  let y2 := t86 n1 n2 n3 n4 s5 l6 n7 n8 n9 n10 s11
  let y3 := !(asB (resC y1 0 0))
  chk ((okR zr86 zo86 y2) || !(!y3)) <|
  if y3 || (!(asB (resC y2 0 0))) then
   some ([.agg [.i .i64 n1, .i .i64 n2, .i .i64 n3, .i .i64 n4, .s s5, .l l6], .one (.b false)], [])
  else
   if n7 == (1 : Int) then
    some ([.agg [.i .i64 n8, .i .i64 n10, .i .i64 n3, .i .i64 n4, .s s5, .l l6], .one (.b true)], [])
   else
    if n7 == (2 : Int) then
     let y4 := ([[.i .i64 n8, .s s11]] : List (List D))
     chk ((flatR 2 y4) && decide (l6.length + y4.length ≤ lim)) <|
     some ([.agg [.i .i64 n1, .i .i64 n2, .i .i64 n3, .i .i64 n4, .s s5, .l (l6 ++ y4)], .one (.b true)], [])
    else
     if n7 == (3 : Int) then
      let y5 := w64 ((w64 (n9 - n3)) - (1 : Int))
      chk (decide (0 ≤ y5 ∧ y5 ≤ l6.length)) <|
      some ([.agg [.i .i64 n1, .i .i64 n2, .i .i64 n3, .i .i64 n4, .s s5, .l (l6.take y5.toNat)], .one (.b true)], [])
     else
      let y6 := t65 n1 n2 n3 n4 s5 l6 n9 n8
      chk (okR zr65 zo65 y6) <|
      some ([.agg [.i .i64 n1, .i .i64 n2, .i .i64 n9, .i .i64 n8, .s s11, .l (asL (resC y6 0 0))], .one (.b true)], [])
def zr52 : List DV := [.agg [.i .i64 0, .i .i64 0, .i .i64 0, .i .i64 0, .s ⟨#[]⟩, .l []], .one (.b false)]
def zo52 : List (List D) := []
def A52 : List TA := [.agg [.i .i64, .i .i64, .i .i64, .i .i64, .s, .l], .agg [.i .i64, .i .i64, .i .i64, .i .i64, .s]]
def v52 (vs : List Vr) : Rs := t52 (vI vs 0) (vI vs 1) (vI vs 2) (vI vs 3) (vS vs 4) (vL vs 5) (vI vs 6) (vI vs 7) (vI vs 8) (vI vs 9) (vS vs 10)
def g52 (xs : List DV) : Bool × List DV × List (List D) := gOf zr52 zo52 (argsT A52 v52 xs)
def l63o0 (n37 : Int) (n38 : Int) (n39 : Int) (n40 : Int) (s41 : ByteArray) (l42 : List (List D)) (l43 : List (List D)) (n44 : Int) (b45 : Bool) (n50 : Int) (n51 : Int) (n52 : Int) (n53 : Int) (s54 : ByteArray) (l55 : List (List D)) (l56 : List (List D)) (n57 : Int) (n58 : Int) (n59 : Int) (n60 : Int) (s61 : ByteArray) (q1 : Int → Bool → Bool → Bool → Int → Int → Int → Int → ByteArray → Int → Int → Int → Int → ByteArray → List (List D) → Rs) (q2 : Int → SV → Bool → SV → Int → Int → Int → Int → ByteArray → List (List D) → Rs) : Nat → Int → SV → SV → SV → Int → Int → Int → Int → ByteArray → List (List D) → Rs
  | 0, _, _, _, _, _, _, _, _, _, _ => none
  | m + 1, n46, v47, v48, v49, n62, n63, n64, n65, s66, l67 =>
    let y1 := (decide (n46 < n44)) && (decide (n46 < (l56.length : Int)))
    if y1 then
     let y2 := l56.getD n46.toNat []
     chk (decide (0 ≤ n46) && decide (n46 < l56.length) && isRow z38 y2) <|
     let y3 := t52 n62 n63 n64 n65 s66 l67 (asI (nthD y2 0)) (asI (nthD y2 1)) (asI (nthD y2 2)) (asI (nthD y2 3)) (asS (nthD y2 4))
     chk (okR zr52 zo52 y3) <|
     let y4 := asB (resC y3 1 0)
     let y5 := !y4
     if y5 then
      let y6 := asI (resC y3 0 0)
      let y7 := asI (resC y3 0 1)
      let y8 := asI (resC y3 0 2)
      let y9 := asI (resC y3 0 3)
      let y10 := asS (resC y3 0 4)
      let y11 := asL (resC y3 0 5)
      q1 n46 y4 y1 y5 n62 n63 n64 n65 s66 y6 y7 y8 y9 y10 y11
     else
      let y12 := asI (resC y3 0 0)
      let y13 := asI (resC y3 0 1)
      let y14 := asI (resC y3 0 2)
      let y15 := asI (resC y3 0 3)
      let y16 := asS (resC y3 0 4)
      let y17 := asL (resC y3 0 5)
      l63o0 n37 n38 n39 n40 s41 l42 l43 n44 b45 n50 n51 n52 n53 s54 l55 l56 n57 n58 n59 n60 s61 q1 q2 m (w64 (n46 + (1 : Int))) (.d (.b y4)) (.d (.b y1)) (.d (.b y5)) y12 y13 y14 y15 y16 y17
    else
     q2 n46 (keepV [128, 256, 384, 24582] v47) y1 (keepV [128, 256, 384, 24582] v49) n62 n63 n64 n65 s66 l67
/-- spec.l3Fold -/
def t63 (n1 : Int) (n2 : Int) (n3 : Int) (n4 : Int) (s5 : ByteArray) (l6 : List (List D)) (l7 : List (List D)) (n8 : Int) : Rs :=
  let y1 := t53 n1 n2 n3 n4 s5 l6
  chk (okR zr53 zo53 y1) <|
  l63o0 n1 n2 n3 n4 s5 l6 l7 n8 false n1 n2 n3 n4 s5 l6 l7 (0 : Int) (0 : Int) (0 : Int) (0 : Int) (⟨#[]⟩ : ByteArray)
   (fun (n124 : Int) (b125 : Bool) (b126 : Bool) (b127 : Bool) (n128 : Int) (n129 : Int) (n130 : Int) (n131 : Int) (s132 : ByteArray) (n133 : Int) (n134 : Int) (n135 : Int) (n136 : Int) (s137 : ByteArray) (l138 : List (List D)) =>
    some ([.agg [.i .i64 0, .i .i64 0, .i .i64 0, .i .i64 0, .s ⟨#[]⟩, .l []], .one (.b false)], []))
   (fun (n139 : Int) (v140 : SV) (b141 : Bool) (v142 : SV) (n143 : Int) (n144 : Int) (n145 : Int) (n146 : Int) (s147 : ByteArray) (l148 : List (List D)) =>
    some ([.agg [.i .i64 n143, .i .i64 n144, .i .i64 n145, .i .i64 n146, .s s147, .l l148], .one (.b true)], [])) KK (0 : Int) SV.undef SV.undef SV.undef (asI (resC y1 0 0)) (asI (resC y1 0 1)) (asI (resC y1 0 2)) (asI (resC y1 0 3)) (asS (resC y1 0 4)) (asL (resC y1 0 5))
def zr63 : List DV := [.agg [.i .i64 0, .i .i64 0, .i .i64 0, .i .i64 0, .s ⟨#[]⟩, .l []], .one (.b false)]
def zo63 : List (List D) := []
def A63 : List TA := [.agg [.i .i64, .i .i64, .i .i64, .i .i64, .s, .l, .l], .one (.i .i64)]
def v63 (vs : List Vr) : Rs := t63 (vI vs 0) (vI vs 1) (vI vs 2) (vI vs 3) (vS vs 4) (vL vs 5) (vL vs 6) (vI vs 7)
def g63 (xs : List DV) : Bool × List DV × List (List D) := gOf zr63 zo63 (argsT A63 v63 xs)
/-- spec.StoreOk -/
def t22 (n1 : Int) (n2 : Int) (n3 : Int) (n4 : Int) (s5 : ByteArray) (l6 : List (List D)) (l7 : List (List D)) : Rs :=
  let y1 := t51 n1 n2 n3 n4 s5 l6
  chk (okR zr51 zo51 y1) <|
  if (!(asB (resC y1 0 0))) || (decide ((l7.length : Int) > (80 : Int))) then
   some ([.one (.b false)], [])
  else
   let y2 := t63 n1 n2 n3 n4 s5 l6 l7 (l7.length : Int)
   chk (okR zr63 zo63 y2) <|
   some ([.one (.b (asB (resC y2 1 0)))], [])
def zr22 : List DV := [.one (.b false)]
def zo22 : List (List D) := []
def A22 : List TA := [.agg [.i .i64, .i .i64, .i .i64, .i .i64, .s, .l, .l]]
def v22 (vs : List Vr) : Rs := t22 (vI vs 0) (vI vs 1) (vI vs 2) (vI vs 3) (vS vs 4) (vL vs 5) (vL vs 6)
def g22 (xs : List DV) : Bool × List DV × List (List D) := gOf zr22 zo22 (argsT A22 v22 xs)
/-- spec.l3CopyStore -/
def t70 (n1 : Int) (n2 : Int) (n3 : Int) (n4 : Int) (s5 : ByteArray) (l6 : List (List D)) (l7 : List (List D)) : Rs :=
  let y1 := t53 n1 n2 n3 n4 s5 l6
  chk (okR zr53 zo53 y1) <|
  chk ((flatR 5 l7) && decide (([] : List (List D)).length + l7.length ≤ lim)) <|
  some ([.agg [.i .i64 (asI (resC y1 0 0)), .i .i64 (asI (resC y1 0 1)), .i .i64 (asI (resC y1 0 2)), .i .i64 (asI (resC y1 0 3)), .s (asS (resC y1 0 4)), .l (asL (resC y1 0 5)), .l (([] : List (List D)) ++ l7)]], [])
def zr70 : List DV := [.agg [.i .i64 0, .i .i64 0, .i .i64 0, .i .i64 0, .s ⟨#[]⟩, .l [], .l []]]
def zo70 : List (List D) := []
def A70 : List TA := [.agg [.i .i64, .i .i64, .i .i64, .i .i64, .s, .l, .l]]
def v70 (vs : List Vr) : Rs := t70 (vI vs 0) (vI vs 1) (vI vs 2) (vI vs 3) (vS vs 4) (vL vs 5) (vL vs 6)
def g70 (xs : List DV) : Bool × List DV × List (List D) := gOf zr70 zo70 (argsT A70 v70 xs)
def l69o0 (l38 : List (List D)) (n39 : Int) (n40 : Int) (n46 : Int) (n47 : Int) (n48 : Int) (n49 : Int) (s50 : ByteArray) (n51 : Int) (n52 : Int) (n53 : Int) (n54 : Int) (s55 : ByteArray) (l61 : List (List D)) (q1 : SV → Int → SV → Bool → Bool → SV → Int → Int → Int → Int → ByteArray → List (List D) → List (List D) → Rs) (q2 : SV → Int → Bool → Bool → Bool → Bool → Int → Int → Int → Int → ByteArray → Int → Int → Int → Int → ByteArray → List (List D) → List (List D) → Rs) (q3 : SV → Int → SV → Bool → SV → SV → Int → Int → Int → Int → ByteArray → List (List D) → List (List D) → Rs) : Nat → SV → Int → SV → SV → SV → SV → Int → Int → Int → Int → ByteArray → List (List D) → List (List D) → Rs
  | 0, _, _, _, _, _, _, _, _, _, _, _, _, _ => none
  | m + 1, v37, n41, v42, v43, v44, v45, n56, n57, n58, n59, s60, l62, l63 =>
    let y1 := decide (n41 < (l38.length : Int))
    if y1 then
     let y2 := (decide (n41 ≥ n39)) || (decide ((l62.length : Int) ≥ (80 : Int)))
     if y2 then
      q1 v37 n41 v42 y1 y2 v45 n56 n57 n58 n59 s60 l62 l63
     else
      let y3 := l38.getD n41.toNat []
      chk (decide (0 ≤ n41) && decide (n41 < l38.length) && isRow z38 y3) <|
      let y4 := t52 n56 n57 n58 n59 s60 l63 (asI (nthD y3 0)) (asI (nthD y3 1)) (asI (nthD y3 2)) (asI (nthD y3 3)) (asS (nthD y3 4))
      chk (okR zr52 zo52 y4) <|
      let y5 := asB (resC y4 1 0)
      let y6 := !y5
      if y6 then
       let y7 := renV 2821 45062 (killV 32774 v37)
       let y8 := asI (resC y4 0 0)
       let y9 := asI (resC y4 0 1)
       let y10 := asI (resC y4 0 2)
       let y11 := asI (resC y4 0 3)
       let y12 := asS (resC y4 0 4)
       let y13 := asL (resC y4 0 5)
       q2 y7 n41 y5 y1 y2 y6 n56 n57 n58 n59 s60 y8 y9 y10 y11 y12 l62 y13
      else
       let y14 := l38.getD n41.toNat []
       chk (decide (0 ≤ n41) && decide (n41 < l38.length) && isRow z38 y14) <|
       let y15 := ([[.i .i64 (asI (nthD y14 0)), .i .i64 (asI (nthD y14 1)), .i .i64 (asI (nthD y14 2)), .i .i64 (asI (nthD y14 3)), .s (asS (nthD y14 4))]] : List (List D))
       chk ((flatR 5 y15) && decide (l62.length + y15.length ≤ lim)) <|
       let y16 := renV 2821 45062 (killV 32774 v37)
       let y17 := asI (resC y4 0 0)
       let y18 := asI (resC y4 0 1)
       let y19 := asI (resC y4 0 2)
       let y20 := asI (resC y4 0 3)
       let y21 := asS (resC y4 0 4)
       let y22 := asL (resC y4 0 5)
       l69o0 l38 n39 n40 n46 n47 n48 n49 s50 n51 n52 n53 n54 s55 l61 q1 q2 q3 m (keepV [192, 384, 512, 12294, 12295, 32774] (killV 12295 (renV 45062 32774 y16))) (w64 (n41 + (1 : Int))) (.d (.b y5)) (.d (.b y1)) (.d (.b y2)) (.d (.b y6)) y17 y18 y19 y20 y21 (l62 ++ y15) y22
    else
     q3 (keepV [192, 384, 512, 12294, 12295, 32774] v37) n41 (keepV [192, 384, 512, 12294, 12295, 32774] v42) y1 (keepV [192, 384, 512, 12294, 12295, 32774] v44) (keepV [192, 384, 512, 12294, 12295, 32774] v45) n56 n57 n58 n59 s60 l62 l63
/-- spec.l3Write -/
def t69 (n1 : Int) (n2 : Int) (n3 : Int) (n4 : Int) (s5 : ByteArray) (l6 : List (List D)) (l7 : List (List D)) (l8 : List (List D)) (n9 : Int) : Rs :=
  let y1 := t63 n1 n2 n3 n4 s5 l6 l7 (l7.length : Int)
  chk ((okR zr63 zo63 y1) && (asB (resC y1 1 0))) <|
  l69o0 l8 n9 (0 : Int) n1 n2 n3 n4 s5 (0 : Int) (0 : Int) (0 : Int) (0 : Int) (⟨#[]⟩ : ByteArray) l6
   (fun (v135 : SV) (n136 : Int) (v137 : SV) (b138 : Bool) (b139 : Bool) (v140 : SV) (n141 : Int) (n142 : Int) (n143 : Int) (n144 : Int) (s145 : ByteArray) (l146 : List (List D)) (l147 : List (List D)) =>
    some ([.agg [.i .i64 n1, .i .i64 n2, .i .i64 n3, .i .i64 n4, .s s5, .l l6, .l l146], .one (.i .i64 n136)], []))
   (fun (v148 : SV) (n149 : Int) (b150 : Bool) (b151 : Bool) (b152 : Bool) (b153 : Bool) (n154 : Int) (n155 : Int) (n156 : Int) (n157 : Int) (s158 : ByteArray) (n159 : Int) (n160 : Int) (n161 : Int) (n162 : Int) (s163 : ByteArray) (l164 : List (List D)) (l165 : List (List D)) =>
    some ([.agg [.i .i64 n1, .i .i64 n2, .i .i64 n3, .i .i64 n4, .s s5, .l l6, .l l164], .one (.i .i64 n149)], []))
   (fun (v166 : SV) (n167 : Int) (v168 : SV) (b169 : Bool) (v170 : SV) (v171 : SV) (n172 : Int) (n173 : Int) (n174 : Int) (n175 : Int) (s176 : ByteArray) (l177 : List (List D)) (l178 : List (List D)) =>
    some ([.agg [.i .i64 n1, .i .i64 n2, .i .i64 n3, .i .i64 n4, .s s5, .l l6, .l l177], .one (.i .i64 (l8.length : Int))], [])) KK (SV.agg [(.d (.i .i64 n1)), (.d (.i .i64 n2)), (.d (.i .i64 n3)), (.d (.i .i64 n4)), (.d (.s s5)), (SV.own 12294), (SV.own 12295)]) (0 : Int) SV.undef SV.undef SV.undef SV.undef (asI (resC y1 0 0)) (asI (resC y1 0 1)) (asI (resC y1 0 2)) (asI (resC y1 0 3)) (asS (resC y1 0 4)) l7 (asL (resC y1 0 5))
def zr69 : List DV := [.agg [.i .i64 0, .i .i64 0, .i .i64 0, .i .i64 0, .s ⟨#[]⟩, .l [], .l []], .one (.i .i64 0)]
def zo69 : List (List D) := []
def A69 : List TA := [.agg [.i .i64, .i .i64, .i .i64, .i .i64, .s, .l, .l], .one (.l), .one (.i .i64)]
def v69 (vs : List Vr) : Rs := t69 (vI vs 0) (vI vs 1) (vI vs 2) (vI vs 3) (vS vs 4) (vL vs 5) (vL vs 6) (vL vs 7) (vI vs 8)
def g69 (xs : List DV) : Bool × List DV × List (List D) := gOf zr69 zo69 (argsT A69 v69 xs)
/-- spec.Write -/
def t40 (n1 : Int) (n2 : Int) (n3 : Int) (n4 : Int) (s5 : ByteArray) (l6 : List (List D)) (l7 : List (List D)) (l8 : List (List D)) (n9 : Int) : Rs :=
  let y1 := t22 n1 n2 n3 n4 s5 l6 l7
  chk (okR zr22 zo22 y1) <|
  if !(asB (resC y1 0 0)) then
   some ([.agg [.i .i64 (0 : Int), .i .i64 (0 : Int), .i .i64 (0 : Int), .i .i64 (0 : Int), .s (⟨#[]⟩ : ByteArray), .l ([] : List (List D)), .l ([] : List (List D))], .one (.i .i64 (0 : Int))], [])
  else
   let y2 := t70 n1 n2 n3 n4 s5 l6 l7
   chk (okR zr70 zo70 y2) <|
   let y3 := t69 (asI (resC y2 0 0)) (asI (resC y2 0 1)) (asI (resC y2 0 2)) (asI (resC y2 0 3)) (asS (resC y2 0 4)) (asL (resC y2 0 5)) (asL (resC y2 0 6)) l8 n9
   chk (okR zr69 zo69 y3) <|
   some ([.agg [.i .i64 (asI (resC y3 0 0)), .i .i64 (asI (resC y3 0 1)), .i .i64 (asI (resC y3 0 2)), .i .i64 (asI (resC y3 0 3)), .s (asS (resC y3 0 4)), .l (asL (resC y3 0 5)), .l (asL (resC y3 0 6))], .one (.i .i64 (asI (resC y3 1 0)))], [])
def zr40 : List DV := [.agg [.i .i64 0, .i .i64 0, .i .i64 0, .i .i64 0, .s ⟨#[]⟩, .l [], .l []], .one (.i .i64 0)]
def zo40 : List (List D) := []
def A40 : List TA := [.agg [.i .i64, .i .i64, .i .i64, .i .i64, .s, .l, .l], .one (.l), .one (.i .i64)]
def v40 (vs : List Vr) : Rs := t40 (vI vs 0) (vI vs 1) (vI vs 2) (vI vs 3) (vS vs 4) (vL vs 5) (vL vs 6) (vL vs 7) (vI vs 8)
def g40 (xs : List DV) : Bool × List DV × List (List D) := gOf zr40 zo40 (argsT A40 v40 xs)
/-- impl.within -/
def t76 (n1 : Int) (n2 : Int) (n3 : Int) : Rs :=
  some ([.one (.b ((decide (n1 ≥ n2)) && (decide (n1 ≤ n3))))], [])
def zr76 : List DV := [.one (.b false)]
def zo76 : List (List D) := []
def A76 : List TA := [.one (.i .i64), .one (.i .i64), .one (.i .i64)]
def v76 (vs : List Vr) : Rs := t76 (vI vs 0) (vI vs 1) (vI vs 2)
def g76 (xs : List DV) : Bool × List DV × List (List D) := gOf zr76 zo76 (argsT A76 v76 xs)
def l56o2 (n26 : Int) (n27 : Int) (n28 : Int) (n29 : Int) (s30 : ByteArray) (l31 : List (List D)) (b32 : Bool) (b34 : Bool) (b35 : Bool) (l36 : List (List D)) (n37 : Int) (n41 : Int) (n42 : Int) (n43 : Int) (n44 : Int) (s45 : ByteArray) (l46 : List (List D)) (q1 : Int → Int → Bool → Bool → Int → ByteArray → Rs) (q2 : Int → Int → Bool → SV → Rs) : Nat → Int → Int → SV → SV → Rs
  | 0, _, _, _, _ => none
  | m + 1, n33, n38, v39, v40 =>
    let y1 := decide (n38 < n37)
    if y1 then
     let y2 := l36.getD n38.toNat []
     chk (decide (0 ≤ n38) && decide (n38 < l36.length) && isRow z90 y2) <|
     let y3 := asI (nthD y2 0)
     let y4 := t76 y3 n33 n41
     let y5 := asS (nthD y2 1)
     let y6 := decide ((y5.size : Int) > (1600 : Int))
     chk ((okR zr76 zo76 y4) || !(!y6)) <|
     let y7 := y6 || (!(asB (resC y4 0 0)))
     if y7 then
      q1 n33 n38 y1 y7 y3 y5
     else
      l56o2 n26 n27 n28 n29 s30 l31 b32 b34 b35 l36 n37 n41 n42 n43 n44 s45 l46 q1 q2 m y3 (w64 (n38 + (1 : Int))) (.d (.b y1)) (.d (.b y7))
    else
     q2 n33 n38 y1 (keepV [64] v40)
/-- impl.KeptOk -/
def t56 (n1 : Int) (n2 : Int) (n3 : Int) (n4 : Int) (s5 : ByteArray) (l6 : List (List D)) : Rs :=
  let y1 := t76 n1 (0 : Int) (100000 : Int)
  chk (okR zr76 zo76 y1) <|
  let y2 := t76 n2 (-1 : Int) (4 : Int)
  let y3 := !(asB (resC y1 0 0))
  chk ((okR zr76 zo76 y2) || !(!y3)) <|
  let y4 := (y3 || (!(asB (resC y2 0 0)))) || (decide ((l6.length : Int) > (60 : Int)))
  if y4 then
   some ([.one (.b false)], [])
  else
   let y5 := t76 n3 (1 : Int) (100000 : Int)
   let y6 := !((n3 == (0 : Int)) && ((n4 == (0 : Int)) && ((s5.toList == (⟨#[]⟩ : ByteArray).toList) && true)))
   chk ((okR zr76 zo76 y5) || !y6) <|
   let y7 := t76 n4 (1 : Int) n1
   let y8 := !(asB (resC y5 0 0))
   chk ((okR zr76 zo76 y7) || !(y6 && (!y8))) <|
   let y9 := y6 && ((y8 || (!(asB (resC y7 0 0)))) || (decide ((s5.size : Int) > (20000 : Int))))
   if y9 then
    some ([.one (.b false)], [])
   else
    l56o2 n1 n2 n3 n4 s5 l6 false y4 y9 l6 (l6.length : Int) n1 n2 n3 n4 s5 l6
     (fun (n78 : Int) (n79 : Int) (b80 : Bool) (b81 : Bool) (n82 : Int) (s83 : ByteArray) =>
      some ([.one (.b false)], []))
     (fun (n84 : Int) (n85 : Int) (b86 : Bool) (v87 : SV) =>
      some ([.one (.b (decide ((w64 (n3 + (l6.length : Int))) ≤ (100000 : Int))))], [])) KK (if n4 > (1 : Int) then n4 else (1 : Int)) (0 : Int) SV.undef SV.undef
def zr56 : List DV := [.one (.b false)]
def zo56 : List (List D) := []
def A56 : List TA := [.agg [.i .i64, .i .i64, .i .i64, .i .i64, .s, .l]]
def v56 (vs : List Vr) : Rs := t56 (vI vs 0) (vI vs 1) (vI vs 2) (vI vs 3) (vS vs 4) (vL vs 5)
def g56 (xs : List DV) : Bool × List DV × List (List D) := gOf zr56 zo56 (argsT A56 v56 xs)
/-- impl.copyKept -/
def t57 (n1 : Int) (n2 : Int) (n3 : Int) (n4 : Int) (s5 : ByteArray) (l6 : List (List D)) : Rs :=
  chk ((flatR 2 l6) && decide (l6.length ≤ lim)) <|
  some ([.agg [.i .i64 n1, .i .i64 n2, .i .i64 n3, .i .i64 n4, .s s5, .l l6]], [])
def zr57 : List DV := [.agg [.i .i64 0, .i .i64 0, .i .i64 0, .i .i64 0, .s ⟨#[]⟩, .l []]]
def zo57 : List (List D) := []
def A57 : List TA := [.agg [.i .i64, .i .i64, .i .i64, .i .i64, .s, .l]]
def v57 (vs : List Vr) : Rs := t57 (vI vs 0) (vI vs 1) (vI vs 2) (vI vs 3) (vS vs 4) (vL vs 5)
def g57 (xs : List DV) : Bool × List DV × List (List D) := gOf zr57 zo57 (argsT A57 v57 xs)
/-- impl.RecOk -/
def t45 (n1 : Int) (n2 : Int) (n3 : Int) (n4 : Int) (s5 : ByteArray) : Rs :=
  if n1 == (1 : Int) then
   let y1 := t76 n2 (0 : Int) (100000 : Int)
   chk (okR zr76 zo76 y1) <|
   let y2 := t76 n4 (-1 : Int) (4 : Int)
   let y3 := asB (resC y1 0 0)
   chk ((okR zr76 zo76 y2) || !y3) <|
   some ([.one (.b ((y3 && (asB (resC y2 0 0))) && ((n1 == n1) && ((n2 == n2) && ((n3 == (0 : Int)) && ((n4 == n4) && ((s5.toList == (⟨#[]⟩ : ByteArray).toList) && true)))))))], [])
  else
   if n1 == (2 : Int) then
    let y4 := t76 n2 (1 : Int) (100000 : Int)
    chk (okR zr76 zo76 y4) <|
    let y5 := t76 n3 (1 : Int) (100000 : Int)
    let y6 := asB (resC y4 0 0)
    chk ((okR zr76 zo76 y5) || !y6) <|
    some ([.one (.b (((y6 && (asB (resC y5 0 0))) && (decide ((s5.size : Int) ≤ (1600 : Int)))) && ((n1 == n1) && ((n2 == n2) && ((n3 == n3) && ((n4 == (0 : Int)) && ((s5.toList == s5.toList) && true)))))))], [])
   else
    if n1 == (3 : Int) then
     let y7 := t76 n3 (1 : Int) (100000 : Int)
     chk (okR zr76 zo76 y7) <|
     some ([.one (.b ((asB (resC y7 0 0)) && ((n1 == n1) && ((n2 == (0 : Int)) && ((n3 == n3) && ((n4 == (0 : Int)) && ((s5.toList == (⟨#[]⟩ : ByteArray).toList) && true)))))))], [])
    else
     let k1 := fun (b6 : Bool) (n7 : Int) (n8 : Int) (s9 : ByteArray) =>
      some ([.one (.b (b6 && ((n1 == n1) && ((n2 == n7) && ((n3 == n8) && ((n4 == (0 : Int)) && ((s5.toList == s9.toList) && true)))))))], [])
     if n1 == (4 : Int) then
      let y8 := t76 n2 (1 : Int) (100000 : Int)
      chk (okR zr76 zo76 y8) <|
      let y9 := t76 n3 (1 : Int) (100000 : Int)
      let y10 := asB (resC y8 0 0)
      chk ((okR zr76 zo76 y9) || !y10) <|
      k1 ((y10 && (asB (resC y9 0 0))) && (decide ((s5.size : Int) ≤ (20000 : Int)))) n2 n3 s5
     else
      k1 false (0 : Int) (0 : Int) (⟨#[]⟩ : ByteArray)
def zr45 : List DV := [.one (.b false)]
def zo45 : List (List D) := []
def A45 : List TA := [.agg [.i .i64, .i .i64, .i .i64, .i .i64, .s]]
def v45 (vs : List Vr) : Rs := t45 (vI vs 0) (vI vs 1) (vI vs 2) (vI vs 3) (vS vs 4)
def g45 (xs : List DV) : Bool × List DV × List (List D) := gOf zr45 zo45 (argsT A45 v45 xs)
/-- (*impl.Kept).last -/
def t95 (n1 : Int) (n2 : Int) (n3 : Int) (n4 : Int) (s5 : ByteArray) (l6 : List (List D)) : Rs :=
  let y1 := (l6.length : Int)
  if y1 == (0 : Int) then
   some ([.one (.i .i64 n3), .one (.i .i64 n4)], [])
  else
   let y2 := w64 (y1 - (1 : Int))
   let y3 := l6.getD y2.toNat []
   chk (decide (0 ≤ y2) && decide (y2 < l6.length) && isRow z90 y3) <|
   some ([.one (.i .i64 (w64 (n3 + y1))), .one (.i .i64 (asI (nthD y3 0)))], [])
def zr95 : List DV := [.one (.i .i64 0), .one (.i .i64 0)]
def zo95 : List (List D) := []
def A95 : List TA := [.ptr [.i .i64, .i .i64, .i .i64, .i .i64, .s, .l]]
def v95 (vs : List Vr) : Rs := t95 (vI vs 0) (vI vs 1) (vI vs 2) (vI vs 3) (vS vs 4) (vL vs 5)
def g95 (xs : List DV) : Bool × List DV × List (List D) := gOf zr95 zo95 (argsT A95 v95 xs)
/-- (*impl.Kept).fits -/
def t88 (n1 : Int) (n2 : Int) (n3 : Int) (n4 : Int) (s5 : ByteArray) (l6 : List (List D)) (n7 : Int) (n8 : Int) (n9 : Int) (n10 : Int) (s11 : ByteArray) : Rs :=
  let y1 := t95 n1 n2 n3 n4 s5 l6
  chk (okR zr95 zo95 y1) <|
  if n7 == (1 : Int) then
   some ([.one (.b ((decide (n8 > n1)) || ((n8 == n1) && ((n2 == (-1 : Int)) || (n2 == n10)))))], [])
  else
   if n7 == (2 : Int) then
    let y2 := t76 n8 (asI (resC y1 1 0)) n1
    let y3 := asI (resC y1 0 0)
    let y4 := (n9 == (w64 (y3 + (1 : Int)))) && (decide ((l6.length : Int) < (60 : Int)))
    chk ((okR zr76 zo76 y2) || !y4) <|
    some ([.one (.b (y4 && (asB (resC y2 0 0))))], [])
   else
    if n7 == (3 : Int) then
     let y5 := asI (resC y1 0 0)
     let y6 := t76 n9 (w64 (n3 + (1 : Int))) y5
     chk (okR zr76 zo76 y6) <|
     some ([.one (.b (asB (resC y6 0 0)))], [])
    else
     some ([.one (.b ((decide (n9 > n3)) && (decide (n8 ≤ n1))))], [])
def zr88 : List DV := [.one (.b false)]
def zo88 : List (List D) := []
def A88 : List TA := [.ptr [.i .i64, .i .i64, .i .i64, .i .i64, .s, .l], .agg [.i .i64, .i .i64, .i .i64, .i .i64, .s]]
def v88 (vs : List Vr) : Rs := t88 (vI vs 0) (vI vs 1) (vI vs 2) (vI vs 3) (vS vs 4) (vL vs 5) (vI vs 6) (vI vs 7) (vI vs 8) (vI vs 9) (vS vs 10)
def g88 (xs : List DV) : Bool × List DV × List (List D) := gOf zr88 zo88 (argsT A88 v88 xs)
/-- (*impl.Kept).step -/
def t58 (n1 : Int) (n2 : Int) (n3 : Int) (n4 : Int) (s5 : ByteArray) (l6 : List (List D)) (n7 : Int) (n8 : Int) (n9 : Int) (n10 : Int) (s11 : ByteArray) : Rs :=
  let y1 := t45 n7 n8 n9 n10 s11
  chk (okR zr45 zo45 y1) <|
  let y2 := t88 n1 n2 n3 n4 s5 l6 n7 n8 n9 n10 s11
  let y3 := !(asB (resC y1 0 0))
  chk ((okR zr88 zo88 y2) || !(!y3)) <|
  if y3 || (!(asB (resC y2 0 0))) then
   some ([.one (.b false)], [[.i .i64 n1, .i .i64 n2, .i .i64 n3, .i .i64 n4, .s s5, .l l6]])
  else
   if n7 == (1 : Int) then
    some ([.one (.b true)], [[.i .i64 n8, .i .i64 n10, .i .i64 n3, .i .i64 n4, .s s5, .l l6]])
   else
    if n7 == (2 : Int) then
     let y4 := ([[.i .i64 n8, .s s11]] : List (List D))
     chk ((flatR 2 y4) && decide (l6.length + y4.length ≤ lim)) <|
     some ([.one (.b true)], [[.i .i64 n1, .i .i64 n2, .i .i64 n3, .i .i64 n4, .s s5, .l (l6 ++ y4)]])
    else
     if n7 == (3 : Int) then
      let y5 := w64 ((w64 (n9 - n3)) - (1 : Int))
      chk (decide (0 ≤ y5 ∧ y5 ≤ l6.length ∧ y5 = y5)) <|
      some ([.one (.b true)], [[.i .i64 n1, .i .i64 n2, .i .i64 n3, .i .i64 n4, .s s5, .l (l6.take y5.toNat)]])
     else
      let y6 := w64 (n9 - n3)
      let y7 := w64 (y6 - (1 : Int))
      let y8 := decide (y6 ≤ (l6.length : Int))
      chk ((decide (0 ≤ y7) && decide (y7 < l6.length)) || !y8) <|
      let y9 := l6.getD (y7.toNat) []
      chk ((decide (1 ≤ y9.length) && isF z3 0 y9) || !y8) <|
      if y8 && ((asI (nthD y9 0)) == n8) then
       chk (decide (0 ≤ y6 ∧ y6 ≤ l6.length)) <|
       let y10 := l6.drop y6.toNat
       chk ((flatR 2 y10) && decide (y10.length ≤ lim)) <|
       some ([.one (.b true)], [[.i .i64 n1, .i .i64 n2, .i .i64 n9, .i .i64 n8, .s s11, .l y10]])
      else
       some ([.one (.b true)], [[.i .i64 n1, .i .i64 n2, .i .i64 n9, .i .i64 n8, .s s11, .l ([] : List (List D))]])
def zr58 : List DV := [.one (.b false)]
def zo58 : List (List D) := [[.i .i64 0, .i .i64 0, .i .i64 0, .i .i64 0, .s ⟨#[]⟩, .l []]]
def A58 : List TA := [.ptr [.i .i64, .i .i64, .i .i64, .i .i64, .s, .l], .agg [.i .i64, .i .i64, .i .i64, .i .i64, .s]]
def v58 (vs : List Vr) : Rs := t58 (vI vs 0) (vI vs 1) (vI vs 2) (vI vs 3) (vS vs 4) (vL vs 5) (vI vs 6) (vI vs 7) (vI vs 8) (vI vs 9) (vS vs 10)
def g58 (xs : List DV) : Bool × List DV × List (List D) := gOf zr58 zo58 (argsT A58 v58 xs)
def l64o1 (n31 : Int) (n32 : Int) (n33 : Int) (n34 : Int) (s35 : ByteArray) (l36 : List (List D)) (l37 : List (List D)) (b38 : Bool) (b39 : Bool) (l40 : List (List D)) (n41 : Int) (n45 : Int) (n46 : Int) (n47 : Int) (n48 : Int) (s49 : ByteArray) (q1 : Int → Bool → Bool → ByteArray → Int → Int → Int → Int → ByteArray → Int → Int → Int → Int → ByteArray → List (List D) → Rs) (q2 : Int → Bool → SV → Int → Int → Int → Int → ByteArray → List (List D) → Rs) : Nat → Int → SV → SV → Int → Int → Int → Int → ByteArray → List (List D) → Rs
  | 0, _, _, _, _, _, _, _, _, _ => none
  | m + 1, n42, v43, v44, n50, n51, n52, n53, s54, l55 =>
    let y1 := decide (n42 < n41)
    if y1 then
     let y2 := l40.getD n42.toNat []
     chk (decide (0 ≤ n42) && decide (n42 < l40.length) && isRow z38 y2) <|
     let y3 := asI (nthD y2 0)
     let y4 := asI (nthD y2 1)
     let y5 := asI (nthD y2 2)
     let y6 := asI (nthD y2 3)
     let y7 := asS (nthD y2 4)
     let y8 := t58 n50 n51 n52 n53 s54 l55 y3 y4 y5 y6 y7
     chk (okR zr58 zo58 y8) <|
     let y9 := !(asB (resC y8 0 0))
     if y9 then
      let y10 := asI (outC y8 0 0)
      let y11 := asI (outC y8 0 1)
      let y12 := asI (outC y8 0 2)
      let y13 := asI (outC y8 0 3)
      let y14 := asS (outC y8 0 4)
      let y15 := asL (outC y8 0 5)
      q1 n42 y1 y9 (⟨#[]⟩ : ByteArray) y10 y11 y12 y13 y14 y3 y4 y5 y6 y7 y15
     else
      let y16 := asI (outC y8 0 0)
      let y17 := asI (outC y8 0 1)
      let y18 := asI (outC y8 0 2)
      let y19 := asI (outC y8 0 3)
      let y20 := asS (outC y8 0 4)
      let y21 := asL (outC y8 0 5)
      l64o1 n31 n32 n33 n34 s35 l36 l37 b38 b39 l40 n41 n45 n46 n47 n48 s49 q1 q2 m (w64 (n42 + (1 : Int))) (.d (.b y1)) (.d (.b y9)) y16 y17 y18 y19 y20 y21
    else
     q2 n42 y1 (keepV [128, 256, 16390] v44) n50 n51 n52 n53 s54 l55
/-- (*impl.Store).held -/
def t64 (n1 : Int) (n2 : Int) (n3 : Int) (n4 : Int) (s5 : ByteArray) (l6 : List (List D)) (l7 : List (List D)) : Rs :=
  let y1 := t56 n1 n2 n3 n4 s5 l6
  chk (okR zr56 zo56 y1) <|
  let y2 := (!(asB (resC y1 0 0))) || (decide ((l7.length : Int) > (80 : Int)))
  if y2 then
   some ([.agg [.i .i64 (0 : Int), .i .i64 (0 : Int), .i .i64 (0 : Int), .i .i64 (0 : Int), .s (⟨#[]⟩ : ByteArray), .l ([] : List (List D))], .one (.b false)], [])
  else
   let y3 := t57 n1 n2 n3 n4 s5 l6
   chk (okR zr57 zo57 y3) <|
   l64o1 n1 n2 n3 n4 s5 l6 l7 false y2 l7 (l7.length : Int) (0 : Int) (0 : Int) (0 : Int) (0 : Int) (⟨#[]⟩ : ByteArray)
    (fun (n105 : Int) (b106 : Bool) (b107 : Bool) (s108 : ByteArray) (n109 : Int) (n110 : Int) (n111 : Int) (n112 : Int) (s113 : ByteArray) (n114 : Int) (n115 : Int) (n116 : Int) (n117 : Int) (s118 : ByteArray) (l119 : List (List D)) =>
     some ([.agg [.i .i64 (0 : Int), .i .i64 (0 : Int), .i .i64 (0 : Int), .i .i64 (0 : Int), .s s108, .l ([] : List (List D))], .one (.b false)], []))
    (fun (n120 : Int) (b121 : Bool) (v122 : SV) (n123 : Int) (n124 : Int) (n125 : Int) (n126 : Int) (s127 : ByteArray) (l128 : List (List D)) =>
     some ([.agg [.i .i64 n123, .i .i64 n124, .i .i64 n125, .i .i64 n126, .s s127, .l l128], .one (.b true)], [])) KK (0 : Int) SV.undef SV.undef (asI (resC y3 0 0)) (asI (resC y3 0 1)) (asI (resC y3 0 2)) (asI (resC y3 0 3)) (asS (resC y3 0 4)) (asL (resC y3 0 5))
def zr64 : List DV := [.agg [.i .i64 0, .i .i64 0, .i .i64 0, .i .i64 0, .s ⟨#[]⟩, .l []], .one (.b false)]
def zo64 : List (List D) := []
def A64 : List TA := [.ptr [.i .i64, .i .i64, .i .i64, .i .i64, .s, .l, .l]]
def v64 (vs : List Vr) : Rs := t64 (vI vs 0) (vI vs 1) (vI vs 2) (vI vs 3) (vS vs 4) (vL vs 5) (vL vs 6)
def g64 (xs : List DV) : Bool × List DV × List (List D) := gOf zr64 zo64 (argsT A64 v64 xs)
/-- impl.copyStore -/
def t71 (n1 : Int) (n2 : Int) (n3 : Int) (n4 : Int) (s5 : ByteArray) (l6 : List (List D)) (l7 : List (List D)) : Rs :=
  let y1 := t57 n1 n2 n3 n4 s5 l6
  chk (okR zr57 zo57 y1) <|
  chk ((flatR 5 l7) && decide (l7.length ≤ lim)) <|
  some ([.agg [.i .i64 (asI (resC y1 0 0)), .i .i64 (asI (resC y1 0 1)), .i .i64 (asI (resC y1 0 2)), .i .i64 (asI (resC y1 0 3)), .s (asS (resC y1 0 4)), .l (asL (resC y1 0 5)), .l l7]], [])
def zr71 : List DV := [.agg [.i .i64 0, .i .i64 0, .i .i64 0, .i .i64 0, .s ⟨#[]⟩, .l [], .l []]]
def zo71 : List (List D) := []
def A71 : List TA := [.agg [.i .i64, .i .i64, .i .i64, .i .i64, .s, .l, .l]]
def v71 (vs : List Vr) : Rs := t71 (vI vs 0) (vI vs 1) (vI vs 2) (vI vs 3) (vS vs 4) (vL vs 5) (vL vs 6)
def g71 (xs : List DV) : Bool × List DV × List (List D) := gOf zr71 zo71 (argsT A71 v71 xs)
def l42o1 (n51 : Int) (n52 : Int) (n53 : Int) (n54 : Int) (s55 : ByteArray) (l56 : List (List D)) (l57 : List (List D)) (l58 : List (List D)) (n59 : Int) (n60 : Int) (b61 : Bool) (b63 : Bool) (l64 : List (List D)) (n65 : Int) (n69 : Int) (n70 : Int) (n71 : Int) (n72 : Int) (s73 : ByteArray) (l74 : List (List D)) (l75 : List (List D)) (n76 : Int) (n77 : Int) (n78 : Int) (n79 : Int) (s80 : ByteArray) (n86 : Int) (n87 : Int) (n88 : Int) (n89 : Int) (s90 : ByteArray) (l92 : List (List D)) (q1 : Int → Int → Bool → Bool → Int → Int → Int → Int → ByteArray → List (List D) → List (List D) → Rs) (q2 : Int → Int → Bool → SV → Int → Int → Int → Int → ByteArray → List (List D) → List (List D) → Rs) : Nat → Int → Int → SV → SV → Int → Int → Int → Int → ByteArray → List (List D) → List (List D) → Rs
  | 0, _, _, _, _, _, _, _, _, _, _, _ => none
  | m + 1, n62, n66, v67, v68, n81, n82, n83, n84, s85, l91, l93 =>
    let y1 := decide (n66 < n65)
    if y1 then
     let y2 := l64.getD n66.toNat []
     chk (decide (0 ≤ n66) && decide (n66 < l64.length) && isRow z38 y2) <|
     let y3 := (l93.length : Int) == (80 : Int)
     if !y3 then
      let y4 := asI (nthD y2 0)
      let y5 := asI (nthD y2 1)
      let y6 := asI (nthD y2 2)
      let y7 := asI (nthD y2 3)
      let y8 := asS (nthD y2 4)
      let y9 := t58 n81 n82 n83 n84 s85 l91 y4 y5 y6 y7 y8
      chk (okR zr58 zo58 y9) <|
      let y10 := y3 || (!(asB (resC y9 0 0)))
      if y10 then
       let y11 := asI (outC y9 0 0)
       let y12 := asI (outC y9 0 1)
       let y13 := asI (outC y9 0 2)
       let y14 := asI (outC y9 0 3)
       let y15 := asS (outC y9 0 4)
       let y16 := asL (outC y9 0 5)
       q1 n62 n66 y1 y10 y11 y12 y13 y14 y15 y16 l93
      else
       let y17 := ([[.i .i64 y4, .i .i64 y5, .i .i64 y6, .i .i64 y7, .s y8]] : List (List D))
       chk ((flatR 5 y17) && decide (l93.length + y17.length ≤ lim)) <|
       let y18 := asI (outC y9 0 0)
       let y19 := asI (outC y9 0 1)
       let y20 := asI (outC y9 0 2)
       let y21 := asI (outC y9 0 3)
       let y22 := asS (outC y9 0 4)
       let y23 := asL (outC y9 0 5)
       l42o1 n51 n52 n53 n54 s55 l56 l57 l58 n59 n60 b61 b63 l64 n65 n69 n70 n71 n72 s73 l74 l75 n76 n77 n78 n79 s80 n86 n87 n88 n89 s90 l92 q1 q2 m (w64 (n62 + (1 : Int))) (w64 (n66 + (1 : Int))) (.d (.b y1)) (.d (.b y10)) y18 y19 y20 y21 y22 y23 (l93 ++ y17)
     else
      if !y3 then
       none
      else
       chk (y3) <|
       q1 n62 n66 y1 true n81 n82 n83 n84 s85 l91 l93
    else
     q2 n62 n66 y1 (keepV [192, 384, 512, 640, 32774, 40966, 40967] v68) n81 n82 n83 n84 s85 l91 l93
/-- impl.Write -/
def t42 (n1 : Int) (n2 : Int) (n3 : Int) (n4 : Int) (s5 : ByteArray) (l6 : List (List D)) (l7 : List (List D)) (l8 : List (List D)) (n9 : Int) : Rs :=
  let y1 := t64 n1 n2 n3 n4 s5 l6 l7
  chk (okR zr64 zo64 y1) <|
  let y2 := asB (resC y1 1 0)
  let y3 := !y2
  if y3 then
   some ([.agg [.i .i64 (0 : Int), .i .i64 (0 : Int), .i .i64 (0 : Int), .i .i64 (0 : Int), .s (⟨#[]⟩ : ByteArray), .l ([] : List (List D)), .l ([] : List (List D))], .one (.i .i64 (0 : Int))], [])
  else
   let y4 := t71 n1 n2 n3 n4 s5 l6 l7
   chk (okR zr71 zo71 y4) <|
   let y5 := (l8.length : Int)
   let y6 := if y5 < n9 then y5 else n9
   let y7 := if y6 > (0 : Int) then y6 else (0 : Int)
   chk (decide (0 ≤ (0 : Int) ∧ (0 : Int) ≤ y7 ∧ y7 ≤ l8.length ∧ (l8.getD 0 z38).length = z38.length)) <|
   let y8 := (l8.take y7.toNat).drop (0 : Int).toNat
   let y9 := asI (resC y4 0 0)
   let y10 := asI (resC y4 0 1)
   let y11 := asI (resC y4 0 2)
   let y12 := asI (resC y4 0 3)
   let y13 := asS (resC y4 0 4)
   let y14 := asL (resC y4 0 5)
   l42o1 n1 n2 n3 n4 s5 l6 l7 l8 n9 (0 : Int) y2 y3 y8 (y8.length : Int) n1 n2 n3 n4 s5 l6 l7 (0 : Int) (0 : Int) (0 : Int) (0 : Int) (⟨#[]⟩ : ByteArray) y9 y10 y11 y12 y13 y14
    (fun (n159 : Int) (n160 : Int) (b161 : Bool) (b162 : Bool) (n163 : Int) (n164 : Int) (n165 : Int) (n166 : Int) (s167 : ByteArray) (l168 : List (List D)) (l169 : List (List D)) =>
     some ([.agg [.i .i64 y9, .i .i64 y10, .i .i64 y11, .i .i64 y12, .s y13, .l y14, .l l169], .one (.i .i64 n159)], []))
    (fun (n170 : Int) (n171 : Int) (b172 : Bool) (v173 : SV) (n174 : Int) (n175 : Int) (n176 : Int) (n177 : Int) (s178 : ByteArray) (l179 : List (List D)) (l180 : List (List D)) =>
     some ([.agg [.i .i64 y9, .i .i64 y10, .i .i64 y11, .i .i64 y12, .s y13, .l y14, .l l180], .one (.i .i64 n170)], [])) KK (0 : Int) (0 : Int) SV.undef SV.undef (asI (resC y1 0 0)) (asI (resC y1 0 1)) (asI (resC y1 0 2)) (asI (resC y1 0 3)) (asS (resC y1 0 4)) (asL (resC y1 0 5)) (asL (resC y4 0 6))
def zr42 : List DV := [.agg [.i .i64 0, .i .i64 0, .i .i64 0, .i .i64 0, .s ⟨#[]⟩, .l [], .l []], .one (.i .i64 0)]
def zo42 : List (List D) := []
def A42 : List TA := [.agg [.i .i64, .i .i64, .i .i64, .i .i64, .s, .l, .l], .one (.l), .one (.i .i64)]
def v42 (vs : List Vr) : Rs := t42 (vI vs 0) (vI vs 1) (vI vs 2) (vI vs 3) (vS vs 4) (vL vs 5) (vL vs 6) (vL vs 7) (vI vs 8)
def g42 (xs : List DV) : Bool × List DV × List (List D) := gOf zr42 zo42 (argsT A42 v42 xs)
/-- laws.eqSnap -/
def t59 (n1 : Int) (n2 : Int) (s3 : ByteArray) (n4 : Int) (n5 : Int) (s6 : ByteArray) : Rs :=
  if n1 != n4 then
   some ([.one (.b false)], [])
  else
   if n2 != n5 then
    some ([.one (.b false)], [])
   else
    if !(s3.toList == s6.toList) then
     some ([.one (.b false)], [])
    else
     some ([.one (.b true)], [])
def zr59 : List DV := [.one (.b false)]
def zo59 : List (List D) := []
def A59 : List TA := [.agg [.i .i64, .i .i64, .s], .agg [.i .i64, .i .i64, .s]]
def v59 (vs : List Vr) : Rs := t59 (vI vs 0) (vI vs 1) (vS vs 2) (vI vs 3) (vI vs 4) (vS vs 5)
def g59 (xs : List DV) : Bool × List DV × List (List D) := gOf zr59 zo59 (argsT A59 v59 xs)
/-- laws.eqEntry -/
def t89 (n1 : Int) (s2 : ByteArray) (n3 : Int) (s4 : ByteArray) : Rs :=
  if n1 != n3 then
   some ([.one (.b false)], [])
  else
   if !(s2.toList == s4.toList) then
    some ([.one (.b false)], [])
   else
    some ([.one (.b true)], [])
def zr89 : List DV := [.one (.b false)]
def zo89 : List (List D) := []
def A89 : List TA := [.agg [.i .i64, .s], .agg [.i .i64, .s]]
def v89 (vs : List Vr) : Rs := t89 (vI vs 0) (vS vs 1) (vI vs 2) (vS vs 3)
def g89 (xs : List DV) : Bool × List DV × List (List D) := gOf zr89 zo89 (argsT A89 v89 xs)
def l60o1 (l8 : List (List D)) (l9 : List (List D)) (b10 : Bool) (b12 : Bool) (q1 : Int → Bool → Bool → Rs) (q2 : Int → Bool → SV → Rs) : Nat → Int → SV → SV → Rs
  | 0, _, _, _ => none
  | m + 1, n11, v13, v14 =>
    let y1 := decide (n11 < (l8.length : Int))
    if y1 then
     let y2 := l8.getD n11.toNat []
     chk (decide (0 ≤ n11) && decide (n11 < l8.length) && isRow z90 y2) <|
     let y3 := l9.getD n11.toNat []
     chk (decide (0 ≤ n11) && decide (n11 < l9.length) && isRow z90 y3) <|
     let y4 := t89 (asI (nthD y2 0)) (asS (nthD y2 1)) (asI (nthD y3 0)) (asS (nthD y3 1))
     chk (okR zr89 zo89 y4) <|
     let y5 := !(asB (resC y4 0 0))
     if y5 then
      q1 n11 y1 y5
     else
      l60o1 l8 l9 b10 b12 q1 q2 m (w64 (n11 + (1 : Int))) (.d (.b y1)) (.d (.b y5))
    else
     q2 n11 y1 (keepV [] v14)
/-- laws.eqEntryS -/
def t60 (l1 : List (List D)) (l2 : List (List D)) : Rs :=
  let y1 := (l1.length : Int) != (l2.length : Int)
  if y1 then
   some ([.one (.b false)], [])
  else
   l60o1 l1 l2 false y1
    (fun (n28 : Int) (b29 : Bool) (b30 : Bool) =>
     some ([.one (.b false)], []))
    (fun (n31 : Int) (b32 : Bool) (v33 : SV) =>
     some ([.one (.b true)], [])) KK (0 : Int) SV.undef SV.undef
def zr60 : List DV := [.one (.b false)]
def zo60 : List (List D) := []
def A60 : List TA := [.one (.l), .one (.l)]
def v60 (vs : List Vr) : Rs := t60 (vL vs 0) (vL vs 1)
def g60 (xs : List DV) : Bool × List DV × List (List D) := gOf zr60 zo60 (argsT A60 v60 xs)
/-- laws.eqKept -/
def t18 (n1 : Int) (n2 : Int) (n3 : Int) (n4 : Int) (s5 : ByteArray) (l6 : List (List D)) (n7 : Int) (n8 : Int) (n9 : Int) (n10 : Int) (s11 : ByteArray) (l12 : List (List D)) : Rs :=
  if n1 != n7 then
   some ([.one (.b false)], [])
  else
   if n2 != n8 then
    some ([.one (.b false)], [])
   else
    let y1 := t59 n3 n4 s5 n9 n10 s11
    chk (okR zr59 zo59 y1) <|
    if !(asB (resC y1 0 0)) then
     some ([.one (.b false)], [])
    else
     chk (okR zr60 zo60 (t60 l6 l12)) <|
     if !(asB (resC (t60 l6 l12) 0 0)) then
      some ([.one (.b false)], [])
     else
      some ([.one (.b true)], [])
def zr18 : List DV := [.one (.b false)]
def zo18 : List (List D) := []
def A18 : List TA := [.agg [.i .i64, .i .i64, .i .i64, .i .i64, .s, .l], .agg [.i .i64, .i .i64, .i .i64, .i .i64, .s, .l]]
def v18 (vs : List Vr) : Rs := t18 (vI vs 0) (vI vs 1) (vI vs 2) (vI vs 3) (vS vs 4) (vL vs 5) (vI vs 6) (vI vs 7) (vI vs 8) (vI vs 9) (vS vs 10) (vL vs 11)
def g18 (xs : List DV) : Bool × List DV × List (List D) := gOf zr18 zo18 (argsT A18 v18 xs)
/-- laws.eqRec -/
def t67 (n1 : Int) (n2 : Int) (n3 : Int) (n4 : Int) (s5 : ByteArray) (n6 : Int) (n7 : Int) (n8 : Int) (n9 : Int) (s10 : ByteArray) : Rs :=
  if n1 != n6 then
   some ([.one (.b false)], [])
  else
   if n2 != n7 then
    some ([.one (.b false)], [])
   else
    if n3 != n8 then
     some ([.one (.b false)], [])
    else
     if n4 != n9 then
      some ([.one (.b false)], [])
     else
      if !(s5.toList == s10.toList) then
       some ([.one (.b false)], [])
      else
       some ([.one (.b true)], [])
def zr67 : List DV := [.one (.b false)]
def zo67 : List (List D) := []
def A67 : List TA := [.agg [.i .i64, .i .i64, .i .i64, .i .i64, .s], .agg [.i .i64, .i .i64, .i .i64, .i .i64, .s]]
def v67 (vs : List Vr) : Rs := t67 (vI vs 0) (vI vs 1) (vI vs 2) (vI vs 3) (vS vs 4) (vI vs 5) (vI vs 6) (vI vs 7) (vI vs 8) (vS vs 9)
def g67 (xs : List DV) : Bool × List DV × List (List D) := gOf zr67 zo67 (argsT A67 v67 xs)
def l28o1 (l8 : List (List D)) (l9 : List (List D)) (b10 : Bool) (b12 : Bool) (q1 : Int → Bool → Bool → Rs) (q2 : Int → Bool → SV → Rs) : Nat → Int → SV → SV → Rs
  | 0, _, _, _ => none
  | m + 1, n11, v13, v14 =>
    let y1 := decide (n11 < (l8.length : Int))
    if y1 then
     let y2 := l8.getD n11.toNat []
     chk (decide (0 ≤ n11) && decide (n11 < l8.length) && isRow z38 y2) <|
     let y3 := l9.getD n11.toNat []
     chk (decide (0 ≤ n11) && decide (n11 < l9.length) && isRow z38 y3) <|
     let y4 := t67 (asI (nthD y2 0)) (asI (nthD y2 1)) (asI (nthD y2 2)) (asI (nthD y2 3)) (asS (nthD y2 4)) (asI (nthD y3 0)) (asI (nthD y3 1)) (asI (nthD y3 2)) (asI (nthD y3 3)) (asS (nthD y3 4))
     chk (okR zr67 zo67 y4) <|
     let y5 := !(asB (resC y4 0 0))
     if y5 then
      q1 n11 y1 y5
     else
      l28o1 l8 l9 b10 b12 q1 q2 m (w64 (n11 + (1 : Int))) (.d (.b y1)) (.d (.b y5))
    else
     q2 n11 y1 (keepV [] v14)
/-- laws.eqRecS -/
def t28 (l1 : List (List D)) (l2 : List (List D)) : Rs :=
  let y1 := (l1.length : Int) != (l2.length : Int)
  if y1 then
   some ([.one (.b false)], [])
  else
   l28o1 l1 l2 false y1
    (fun (n28 : Int) (b29 : Bool) (b30 : Bool) =>
     some ([.one (.b false)], []))
    (fun (n31 : Int) (b32 : Bool) (v33 : SV) =>
     some ([.one (.b true)], [])) KK (0 : Int) SV.undef SV.undef
def zr28 : List DV := [.one (.b false)]
def zo28 : List (List D) := []
def A28 : List TA := [.one (.l), .one (.l)]
def v28 (vs : List Vr) : Rs := t28 (vL vs 0) (vL vs 1)
def g28 (xs : List DV) : Bool × List DV × List (List D) := gOf zr28 zo28 (argsT A28 v28 xs)
/-- laws.eqStore -/
def t25 (n1 : Int) (n2 : Int) (n3 : Int) (n4 : Int) (s5 : ByteArray) (l6 : List (List D)) (l7 : List (List D)) (n8 : Int) (n9 : Int) (n10 : Int) (n11 : Int) (s12 : ByteArray) (l13 : List (List D)) (l14 : List (List D)) : Rs :=
  let y1 := t18 n1 n2 n3 n4 s5 l6 n8 n9 n10 n11 s12 l13
  chk (okR zr18 zo18 y1) <|
  if !(asB (resC y1 0 0)) then
   some ([.one (.b false)], [])
  else
   chk (okR zr28 zo28 (t28 l7 l14)) <|
   if !(asB (resC (t28 l7 l14) 0 0)) then
    some ([.one (.b false)], [])
   else
    some ([.one (.b true)], [])
def zr25 : List DV := [.one (.b false)]
def zo25 : List (List D) := []
def A25 : List TA := [.agg [.i .i64, .i .i64, .i .i64, .i .i64, .s, .l, .l], .agg [.i .i64, .i .i64, .i .i64, .i .i64, .s, .l, .l]]
def v25 (vs : List Vr) : Rs := t25 (vI vs 0) (vI vs 1) (vI vs 2) (vI vs 3) (vS vs 4) (vL vs 5) (vL vs 6) (vI vs 7) (vI vs 8) (vI vs 9) (vI vs 10) (vS vs 11) (vL vs 12) (vL vs 13)
def g25 (xs : List DV) : Bool × List DV × List (List D) := gOf zr25 zo25 (argsT A25 v25 xs)
def l68o1 (s7 : ByteArray) (b9 : Bool) (q1 : Int → ByteArray → Bool → Rs) : Nat → Int → ByteArray → SV → Rs
  | 0, _, _, _ => none
  | m + 1, n6, s8, v10 =>
    let y1 := decide (n6 > (0 : Int))
    if y1 then
     let y2 := ([[.i .u8 (IntKind.wrap .u8 (w64 ((48 : Int) + (n6.tmod (10 : Int)))))]] : List (List D))
     chk (isBytes y2) <|
     let y3 := ⟨(bytesD y2).toArray⟩
     chk (decide (y3.size + s8.size ≤ lim)) <|
     l68o1 s7 b9 q1 m (w64 (n6.tdiv (10 : Int))) (y3 ++ s8) (.d (.b y1))
    else
     q1 n6 s8 y1
/-- laws.markText -/
def t68 (n1 : Int) : Rs :=
  let y1 := decide (n1 ≤ (0 : Int))
  if y1 then
   some ([.one (.s (⟨#[109, 48]⟩ : ByteArray))], [])
  else
   l68o1 (⟨#[]⟩ : ByteArray) y1
    (fun (n19 : Int) (s20 : ByteArray) (b21 : Bool) =>
     chk (decide ((⟨#[109]⟩ : ByteArray).size + s20.size ≤ lim)) <|
     some ([.one (.s ((⟨#[109]⟩ : ByteArray) ++ s20))], [])) KK n1 (⟨#[]⟩ : ByteArray) SV.undef
def zr68 : List DV := [.one (.s ⟨#[]⟩)]
def zo68 : List (List D) := []
def A68 : List TA := [.one (.i .i64)]
def v68 (vs : List Vr) : Rs := t68 (vI vs 0)
def g68 (xs : List DV) : Bool × List DV × List (List D) := gOf zr68 zo68 (argsT A68 v68 xs)
def l61o0 (n8 : Int) (q1 : Int → Int → Bool → List (List D) → Rs) : Nat → Int → Int → SV → List (List D) → Rs
  | 0, _, _, _, _ => none
  | m + 1, n7, n9, v10, l11 =>
    let y1 := decide (n9 < (l11.length : Int))
    if y1 then
     chk (decide (0 ≤ n9) && decide (n9 < l11.length)) <|
     chk (decide (1 ≤ 2 ∧ (n9.toNat) < l11.length)) <|
     let y2 := w64 (n7 + (1 : Int))
     let y3 := t68 y2
     chk (okR zr68 zo68 y3) <|
     let y4 := stR l11 (n9.toNat) 0 [.i .i64 n7]
     chk (decide (0 ≤ n9) && decide (n9 < y4.length)) <|
     chk (decide (2 ≤ 2 ∧ (n9.toNat) < y4.length)) <|
     l61o0 n8 q1 m (w64 (y2 + (1 : Int))) (w64 (n9 + (1 : Int))) (.d (.b y1)) (stR y4 (n9.toNat) 1 [.s (asS (resC y3 0 0))])
    else
     q1 n7 n9 y1 l11
/-- laws.markEntryS -/
def t61 (l1 : List (List D)) (n2 : Int) : Rs :=
  l61o0 (0 : Int)
   (fun (n21 : Int) (n22 : Int) (b23 : Bool) (l24 : List (List D)) =>
    some ([.one (.i .i64 n21)], [[.l l24]])) KK n2 (0 : Int) SV.undef l1
def zr61 : List DV := [.one (.i .i64 0)]
def zo61 : List (List D) := [[.l []]]
def A61 : List TA := [.one (.l), .one (.i .i64)]
def v61 (vs : List Vr) : Rs := t61 (vL vs 0) (vI vs 1)
def g61 (xs : List DV) : Bool × List DV × List (List D) := gOf zr61 zo61 (argsT A61 v61 xs)
/-- laws.markKept -/
def t19 (n1 : Int) (n2 : Int) (n3 : Int) (n4 : Int) (s5 : ByteArray) (l6 : List (List D)) (n7 : Int) : Rs :=
  chk (okR zr61 zo61 (t61 l6 n7)) <|
  some ([.one (.i .i64 (asI (resC (t61 l6 n7) 0 0)))], [[.i .i64 n1, .i .i64 n2, .i .i64 n3, .i .i64 n4, .s s5, .l (asL (outC (t61 l6 n7) 0 0))]])
def zr19 : List DV := [.one (.i .i64 0)]
def zo19 : List (List D) := [[.i .i64 0, .i .i64 0, .i .i64 0, .i .i64 0, .s ⟨#[]⟩, .l []]]
def A19 : List TA := [.agg [.i .i64, .i .i64, .i .i64, .i .i64, .s, .l], .one (.i .i64)]
def v19 (vs : List Vr) : Rs := t19 (vI vs 0) (vI vs 1) (vI vs 2) (vI vs 3) (vS vs 4) (vL vs 5) (vI vs 6)
def g19 (xs : List DV) : Bool × List DV × List (List D) := gOf zr19 zo19 (argsT A19 v19 xs)
def l29o0 (n8 : Int) (q1 : Int → Int → Bool → List (List D) → Rs) : Nat → Int → Int → SV → List (List D) → Rs
  | 0, _, _, _, _ => none
  | m + 1, n7, n9, v10, l11 =>
    let y1 := decide (n9 < (l11.length : Int))
    if y1 then
     chk (decide (0 ≤ n9) && decide (n9 < l11.length)) <|
     chk (decide (1 ≤ 5 ∧ (n9.toNat) < l11.length)) <|
     let y2 := stR l11 (n9.toNat) 0 [.i .i64 n7]
     chk (decide (0 ≤ n9) && decide (n9 < y2.length)) <|
     chk (decide (2 ≤ 5 ∧ (n9.toNat) < y2.length)) <|
     let y3 := w64 (n7 + (1 : Int))
     let y4 := stR y2 (n9.toNat) 1 [.i .i64 y3]
     chk (decide (0 ≤ n9) && decide (n9 < y4.length)) <|
     chk (decide (3 ≤ 5 ∧ (n9.toNat) < y4.length)) <|
     let y5 := w64 (y3 + (1 : Int))
     let y6 := stR y4 (n9.toNat) 2 [.i .i64 y5]
     chk (decide (0 ≤ n9) && decide (n9 < y6.length)) <|
     chk (decide (4 ≤ 5 ∧ (n9.toNat) < y6.length)) <|
     let y7 := w64 (y5 + (1 : Int))
     let y8 := w64 (y7 + (1 : Int))
     let y9 := t68 y8
     chk (okR zr68 zo68 y9) <|
     let y10 := stR y6 (n9.toNat) 3 [.i .i64 y7]
     chk (decide (0 ≤ n9) && decide (n9 < y10.length)) <|
     chk (decide (5 ≤ 5 ∧ (n9.toNat) < y10.length)) <|
     l29o0 n8 q1 m (w64 (y8 + (1 : Int))) (w64 (n9 + (1 : Int))) (.d (.b y1)) (stR y10 (n9.toNat) 4 [.s (asS (resC y9 0 0))])
    else
     q1 n7 n9 y1 l11
/-- laws.markRecS -/
def t29 (l1 : List (List D)) (n2 : Int) : Rs :=
  l29o0 (0 : Int)
   (fun (n21 : Int) (n22 : Int) (b23 : Bool) (l24 : List (List D)) =>
    some ([.one (.i .i64 n21)], [[.l l24]])) KK n2 (0 : Int) SV.undef l1
def zr29 : List DV := [.one (.i .i64 0)]
def zo29 : List (List D) := [[.l []]]
def A29 : List TA := [.one (.l), .one (.i .i64)]
def v29 (vs : List Vr) : Rs := t29 (vL vs 0) (vI vs 1)
def g29 (xs : List DV) : Bool × List DV × List (List D) := gOf zr29 zo29 (argsT A29 v29 xs)
/-- laws.markStore -/
def t33 (n1 : Int) (n2 : Int) (n3 : Int) (n4 : Int) (s5 : ByteArray) (l6 : List (List D)) (l7 : List (List D)) (n8 : Int) : Rs :=
  let y1 := t19 n1 n2 n3 n4 s5 l6 n8
  chk (okR zr19 zo19 y1) <|
  let y2 := t29 l7 (asI (resC y1 0 0))
  chk (okR zr29 zo29 y2) <|
  some ([.one (.i .i64 (asI (resC y2 0 0)))], [[.i .i64 n1, .i .i64 n2, .i .i64 n3, .i .i64 n4, .s s5, .l (asL (outC y1 0 5)), .l (asL (outC y2 0 0))]])
def zr33 : List DV := [.one (.i .i64 0)]
def zo33 : List (List D) := [[.i .i64 0, .i .i64 0, .i .i64 0, .i .i64 0, .s ⟨#[]⟩, .l [], .l []]]
def A33 : List TA := [.agg [.i .i64, .i .i64, .i .i64, .i .i64, .s, .l, .l], .one (.i .i64)]
def v33 (vs : List Vr) : Rs := t33 (vI vs 0) (vI vs 1) (vI vs 2) (vI vs 3) (vS vs 4) (vL vs 5) (vL vs 6) (vI vs 7)
def g33 (xs : List DV) : Bool × List DV × List (List D) := gOf zr33 zo33 (argsT A33 v33 xs)
def l62o0 (l7 : List (List D)) (n9 : Int) (q1 : Int → Int → Bool → Bool → SV → Rs) (q2 : Int → Int → Bool → Bool → Bool → Rs) (q3 : Int → Int → Bool → SV → SV → Rs) : Nat → Int → Int → SV → SV → SV → Rs
  | 0, _, _, _, _, _ => none
  | m + 1, n8, n10, v11, v12, v13 =>
    let y1 := decide (n10 < (l7.length : Int))
    if y1 then
     let y2 := l7.getD n10.toNat []
     chk (decide (0 ≤ n10) && decide (n10 < l7.length) && isRow z90 y2) <|
     let y3 := (asI (nthD y2 0)) != n8
     if y3 then
      q1 n8 n10 y1 y3 v13
     else
      let y4 := l7.getD n10.toNat []
      chk (decide (0 ≤ n10) && decide (n10 < l7.length) && isRow z90 y4) <|
      let y5 := w64 (n8 + (1 : Int))
      let y6 := t68 y5
      chk (okR zr68 zo68 y6) <|
      let y7 := !((asS (nthD y4 1)).toList == (asS (resC y6 0 0)).toList)
      if y7 then
       q2 y5 n10 y1 y3 y7
      else
       l62o0 l7 n9 q1 q2 q3 m (w64 (y5 + (1 : Int))) (w64 (n10 + (1 : Int))) (.d (.b y1)) (.d (.b y3)) (.d (.b y7))
    else
     q3 n8 n10 y1 (keepV [] v12) (keepV [] v13)
/-- laws.heldEntryS -/
def t62 (l1 : List (List D)) (n2 : Int) : Rs :=
  l62o0 l1 (0 : Int)
   (fun (n36 : Int) (n37 : Int) (b38 : Bool) (b39 : Bool) (v40 : SV) =>
    some ([.one (.i .i64 (-1 : Int))], []))
   (fun (n41 : Int) (n42 : Int) (b43 : Bool) (b44 : Bool) (b45 : Bool) =>
    some ([.one (.i .i64 (-1 : Int))], []))
   (fun (n46 : Int) (n47 : Int) (b48 : Bool) (v49 : SV) (v50 : SV) =>
    some ([.one (.i .i64 n46)], [])) KK n2 (0 : Int) SV.undef SV.undef SV.undef
def zr62 : List DV := [.one (.i .i64 0)]
def zo62 : List (List D) := []
def A62 : List TA := [.one (.l), .one (.i .i64)]
def v62 (vs : List Vr) : Rs := t62 (vL vs 0) (vI vs 1)
def g62 (xs : List DV) : Bool × List DV × List (List D) := gOf zr62 zo62 (argsT A62 v62 xs)
/-- laws.heldKept -/
def t20 (n1 : Int) (n2 : Int) (n3 : Int) (n4 : Int) (s5 : ByteArray) (l6 : List (List D)) (n7 : Int) : Rs :=
  chk (okR zr62 zo62 (t62 l6 n7)) <|
  let y1 := asI (resC (t62 l6 n7) 0 0)
  if decide (y1 < (0 : Int)) then
   some ([.one (.i .i64 (-1 : Int))], [])
  else
   some ([.one (.i .i64 y1)], [])
def zr20 : List DV := [.one (.i .i64 0)]
def zo20 : List (List D) := []
def A20 : List TA := [.agg [.i .i64, .i .i64, .i .i64, .i .i64, .s, .l], .one (.i .i64)]
def v20 (vs : List Vr) : Rs := t20 (vI vs 0) (vI vs 1) (vI vs 2) (vI vs 3) (vS vs 4) (vL vs 5) (vI vs 6)
def g20 (xs : List DV) : Bool × List DV × List (List D) := gOf zr20 zo20 (argsT A20 v20 xs)
def l30o0 (l7 : List (List D)) (n9 : Int) (q1 : Int → Int → Bool → Bool → SV → SV → SV → SV → Rs) (q2 : Int → Int → Bool → Bool → Bool → SV → SV → SV → Rs) (q3 : Int → Int → Bool → Bool → Bool → Bool → SV → SV → Rs) (q4 : Int → Int → Bool → Bool → Bool → Bool → Bool → SV → Rs) (q5 : Int → Int → Bool → Bool → Bool → Bool → Bool → Bool → Rs) (q6 : Int → Int → Bool → SV → SV → SV → SV → SV → Rs) : Nat → Int → Int → SV → SV → SV → SV → SV → SV → Rs
  | 0, _, _, _, _, _, _, _, _ => none
  | m + 1, n8, n10, v11, v12, v13, v14, v15, v16 =>
    let y1 := decide (n10 < (l7.length : Int))
    if y1 then
     let y2 := l7.getD n10.toNat []
     chk (decide (0 ≤ n10) && decide (n10 < l7.length) && isRow z38 y2) <|
     let y3 := (asI (nthD y2 0)) != n8
     if y3 then
      q1 n8 n10 y1 y3 v13 v14 v15 v16
     else
      let y4 := l7.getD n10.toNat []
      chk (decide (0 ≤ n10) && decide (n10 < l7.length) && isRow z38 y4) <|
      let y5 := w64 (n8 + (1 : Int))
      let y6 := (asI (nthD y4 1)) != y5
      if y6 then
       q2 y5 n10 y1 y3 y6 v14 v15 v16
      else
       let y7 := l7.getD n10.toNat []
       chk (decide (0 ≤ n10) && decide (n10 < l7.length) && isRow z38 y7) <|
       let y8 := w64 (y5 + (1 : Int))
       let y9 := (asI (nthD y7 2)) != y8
       if y9 then
        q3 y8 n10 y1 y3 y6 y9 v15 v16
       else
        let y10 := l7.getD n10.toNat []
        chk (decide (0 ≤ n10) && decide (n10 < l7.length) && isRow z38 y10) <|
        let y11 := w64 (y8 + (1 : Int))
        let y12 := (asI (nthD y10 3)) != y11
        if y12 then
         q4 y11 n10 y1 y3 y6 y9 y12 v16
        else
         let y13 := l7.getD n10.toNat []
         chk (decide (0 ≤ n10) && decide (n10 < l7.length) && isRow z38 y13) <|
         let y14 := w64 (y11 + (1 : Int))
         let y15 := t68 y14
         chk (okR zr68 zo68 y15) <|
         let y16 := !((asS (nthD y13 4)).toList == (asS (resC y15 0 0)).toList)
         if y16 then
          q5 y14 n10 y1 y3 y6 y9 y12 y16
         else
          l30o0 l7 n9 q1 q2 q3 q4 q5 q6 m (w64 (y14 + (1 : Int))) (w64 (n10 + (1 : Int))) (.d (.b y1)) (.d (.b y3)) (.d (.b y6)) (.d (.b y9)) (.d (.b y12)) (.d (.b y16))
    else
     q6 n8 n10 y1 (keepV [] v12) (keepV [] v13) (keepV [] v14) (keepV [] v15) (keepV [] v16)
/-- laws.heldRecS -/
def t30 (l1 : List (List D)) (n2 : Int) : Rs :=
  l30o0 l1 (0 : Int)
   (fun (n75 : Int) (n76 : Int) (b77 : Bool) (b78 : Bool) (v79 : SV) (v80 : SV) (v81 : SV) (v82 : SV) =>
    some ([.one (.i .i64 (-1 : Int))], []))
   (fun (n83 : Int) (n84 : Int) (b85 : Bool) (b86 : Bool) (b87 : Bool) (v88 : SV) (v89 : SV) (v90 : SV) =>
    some ([.one (.i .i64 (-1 : Int))], []))
   (fun (n91 : Int) (n92 : Int) (b93 : Bool) (b94 : Bool) (b95 : Bool) (b96 : Bool) (v97 : SV) (v98 : SV) =>
    some ([.one (.i .i64 (-1 : Int))], []))
   (fun (n99 : Int) (n100 : Int) (b101 : Bool) (b102 : Bool) (b103 : Bool) (b104 : Bool) (b105 : Bool) (v106 : SV) =>
    some ([.one (.i .i64 (-1 : Int))], []))
   (fun (n107 : Int) (n108 : Int) (b109 : Bool) (b110 : Bool) (b111 : Bool) (b112 : Bool) (b113 : Bool) (b114 : Bool) =>
    some ([.one (.i .i64 (-1 : Int))], []))
   (fun (n115 : Int) (n116 : Int) (b117 : Bool) (v118 : SV) (v119 : SV) (v120 : SV) (v121 : SV) (v122 : SV) =>
    some ([.one (.i .i64 n115)], [])) KK n2 (0 : Int) SV.undef SV.undef SV.undef SV.undef SV.undef SV.undef
def zr30 : List DV := [.one (.i .i64 0)]
def zo30 : List (List D) := []
def A30 : List TA := [.one (.l), .one (.i .i64)]
def v30 (vs : List Vr) : Rs := t30 (vL vs 0) (vI vs 1)
def g30 (xs : List DV) : Bool × List DV × List (List D) := gOf zr30 zo30 (argsT A30 v30 xs)
/-- laws.heldStore -/
def t36 (n1 : Int) (n2 : Int) (n3 : Int) (n4 : Int) (s5 : ByteArray) (l6 : List (List D)) (l7 : List (List D)) (n8 : Int) : Rs :=
  let y1 := t20 n1 n2 n3 n4 s5 l6 n8
  chk (okR zr20 zo20 y1) <|
  let y2 := asI (resC y1 0 0)
  if decide (y2 < (0 : Int)) then
   some ([.one (.i .i64 (-1 : Int))], [])
  else
   let y3 := t30 l7 y2
   chk (okR zr30 zo30 y3) <|
   let y4 := asI (resC y3 0 0)
   if decide (y4 < (0 : Int)) then
    some ([.one (.i .i64 (-1 : Int))], [])
   else
    some ([.one (.i .i64 y4)], [])
def zr36 : List DV := [.one (.i .i64 0)]
def zo36 : List (List D) := []
def A36 : List TA := [.agg [.i .i64, .i .i64, .i .i64, .i .i64, .s, .l, .l], .one (.i .i64)]
def v36 (vs : List Vr) : Rs := t36 (vI vs 0) (vI vs 1) (vI vs 2) (vI vs 3) (vS vs 4) (vL vs 5) (vL vs 6) (vI vs 7)
def g36 (xs : List DV) : Bool × List DV × List (List D) := gOf zr36 zo36 (argsT A36 v36 xs)
/-- laws.FnExactWrite -/
def t9 (n1 : Int) (n2 : Int) (n3 : Int) (n4 : Int) (s5 : ByteArray) (l6 : List (List D)) (l7 : List (List D)) (l8 : List (List D)) (n9 : Int) : Rs :=
  let y1 := t21 n1 n2 n3 n4 s5 l6 l7 (1048576 : Int)
  chk (okR zr21 zo21 y1) <|
  let y2 := asI (resC y1 0 0)
  if decide (y2 < (0 : Int)) then
   some ([.one (.b true)], [])
  else
   let y3 := t39 l8 y2
   chk (okR zr39 zo39 y3) <|
   if decide ((asI (resC y3 0 0)) < (0 : Int)) then
    some ([.one (.b true)], [])
   else
    let y4 := t23 n1 n2 n3 n4 s5 l6 l7
    chk (okR zr23 zo23 y4) <|
    chk (okR zr41 zo41 (t41 l8)) <|
    let y5 := t40 (asI (resC y4 0 0)) (asI (resC y4 0 1)) (asI (resC y4 0 2)) (asI (resC y4 0 3)) (asS (resC y4 0 4)) (asL (resC y4 0 5)) (asL (resC y4 0 6)) (asL (resC (t41 l8) 0 0)) n9
    chk (okR zr40 zo40 y5) <|
    let y6 := t23 n1 n2 n3 n4 s5 l6 l7
    chk (okR zr23 zo23 y6) <|
    chk (okR zr41 zo41 (t41 l8)) <|
    let y7 := asI (resC y6 0 0)
    let y8 := asI (resC y6 0 1)
    let y9 := asI (resC y6 0 2)
    let y10 := asI (resC y6 0 3)
    let y11 := asS (resC y6 0 4)
    let y12 := asL (resC y6 0 5)
    let y13 := asL (resC y6 0 6)
    let y14 := asL (resC (t41 l8) 0 0)
    let y15 := t42 y7 y8 y9 y10 y11 y12 y13 y14 n9
    chk (okR zr42 zo42 y15) <|
    let y16 := asI (resC y15 0 0)
    let y17 := asI (resC y15 0 1)
    let y18 := asI (resC y15 0 2)
    let y19 := asI (resC y15 0 3)
    let y20 := asS (resC y15 0 4)
    let y21 := asL (resC y15 0 5)
    let y22 := asL (resC y15 0 6)
    let y23 := asI (resC y5 0 0)
    let y24 := asI (resC y5 0 1)
    let y25 := asI (resC y5 0 2)
    let y26 := asI (resC y5 0 3)
    let y27 := asS (resC y5 0 4)
    let y28 := asL (resC y5 0 5)
    let y29 := asL (resC y5 0 6)
    let y30 := t25 y16 y17 y18 y19 y20 y21 y22 y23 y24 y25 y26 y27 y28 y29
    chk (okR zr25 zo25 y30) <|
    let y31 := asI (resC y15 1 0)
    let y32 := asI (resC y5 1 0)
    if (!(asB (resC y30 0 0))) || (y31 != y32) then
     some ([.one (.b false)], [])
    else
     let y33 := t23 n1 n2 n3 n4 s5 l6 l7
     chk (okR zr23 zo23 y33) <|
     let y34 := t25 y7 y8 y9 y10 y11 y12 y13 (asI (resC y33 0 0)) (asI (resC y33 0 1)) (asI (resC y33 0 2)) (asI (resC y33 0 3)) (asS (resC y33 0 4)) (asL (resC y33 0 5)) (asL (resC y33 0 6))
     chk (okR zr25 zo25 y34) <|
     if !(asB (resC y34 0 0)) then
      some ([.one (.b false)], [])
     else
      chk (okR zr41 zo41 (t41 l8)) <|
      let y35 := t28 y14 (asL (resC (t41 l8) 0 0))
      chk (okR zr28 zo28 y35) <|
      if !(asB (resC y35 0 0)) then
       some ([.one (.b false)], [])
      else
       let y36 := t33 y7 y8 y9 y10 y11 y12 y13 (1 : Int)
       chk (okR zr33 zo33 y36) <|
       let y37 := t29 y14 (asI (resC y36 0 0))
       chk (okR zr29 zo29 y37) <|
       let y38 := t25 y16 y17 y18 y19 y20 y21 y22 y23 y24 y25 y26 y27 y28 y29
       let y39 := decide ((asI (resC y37 0 0)) < (0 : Int))
       chk ((okR zr25 zo25 y38) || !(!y39)) <|
       if (y39 || (!(asB (resC y38 0 0)))) || (y31 != y32) then
        some ([.one (.b false)], [])
       else
        let y40 := t33 y16 y17 y18 y19 y20 y21 y22 (1 : Int)
        chk (okR zr33 zo33 y40) <|
        let y41 := asL (outC y40 0 5)
        let y42 := asL (outC y40 0 6)
        let y43 := t36 y16 y17 y18 y19 y20 y41 y42 (1 : Int)
        chk (okR zr36 zo36 y43) <|
        let y44 := asI (resC y43 0 0)
        if decide (y44 < (0 : Int)) then
         some ([.one (.b false)], [])
        else
         let y45 := asI (resC y40 0 0)
         if y44 != y45 then
          some ([.one (.b false)], [])
         else
          let y46 := t23 n1 n2 n3 n4 s5 l6 l7
          chk (okR zr23 zo23 y46) <|
          chk (okR zr41 zo41 (t41 l8)) <|
          let y47 := t42 (asI (resC y46 0 0)) (asI (resC y46 0 1)) (asI (resC y46 0 2)) (asI (resC y46 0 3)) (asS (resC y46 0 4)) (asL (resC y46 0 5)) (asL (resC y46 0 6)) (asL (resC (t41 l8) 0 0)) n9
          chk (okR zr42 zo42 y47) <|
          let y48 := t25 (asI (resC y47 0 0)) (asI (resC y47 0 1)) (asI (resC y47 0 2)) (asI (resC y47 0 3)) (asS (resC y47 0 4)) (asL (resC y47 0 5)) (asL (resC y47 0 6)) y23 y24 y25 y26 y27 y28 y29
          chk (okR zr25 zo25 y48) <|
          if (!(asB (resC y48 0 0))) || ((asI (resC y47 1 0)) != y32) then
           some ([.one (.b false)], [])
          else
           let y49 := t36 y16 y17 y18 y19 y20 y41 y42 (1 : Int)
           chk (okR zr36 zo36 y49) <|
           let y50 := asI (resC y49 0 0)
           if decide (y50 < (0 : Int)) then
            some ([.one (.b false)], [])
           else
            if y50 != y45 then
             some ([.one (.b false)], [])
            else
             some ([.one (.b true)], [])
def zr9 : List DV := [.one (.b false)]
def zo9 : List (List D) := []
def A9 : List TA := [.agg [.i .i64, .i .i64, .i .i64, .i .i64, .s, .l, .l], .one (.l), .one (.i .i64)]
def v9 (vs : List Vr) : Rs := t9 (vI vs 0) (vI vs 1) (vI vs 2) (vI vs 3) (vS vs 4) (vL vs 5) (vL vs 6) (vL vs 7) (vI vs 8)
def g9 (xs : List DV) : Bool × List DV × List (List D) := gOf zr9 zo9 (argsT A9 v9 xs)
end
end Go.Den.L9
