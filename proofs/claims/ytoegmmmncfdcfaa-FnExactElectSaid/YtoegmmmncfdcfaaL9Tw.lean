/- What the functions come to, as plain Lean. Printed by tw.py. -/
import Derived.Test.YtoegmmmncfdcfaaDm8
set_option linter.unusedVariables false
namespace Go.Den.L9
open Go
noncomputable section
/-- The rounds that a loop is given: 2 ^ 64; so laid that nothing unfolds it. -/
noncomputable def KK : Nat := Classical.choose (⟨2 ^ 64, rfl⟩ : ∃ n : Nat, n = 2 ^ 64)
def w64 (x : Int) : Int := IntKind.wrap .i64 x
def chk (b : Bool) (x : Rs) : Rs := if b then x else none
def bitAnd (k : IntKind) (a b : Int) : Int := k.wrap (BitVec.ofInt k.bits a &&& BitVec.ofInt k.bits b).toNat
def bitOr (k : IntKind) (a b : Int) : Int := k.wrap (BitVec.ofInt k.bits a ||| BitVec.ofInt k.bits b).toNat
def bitXor (k : IntKind) (a b : Int) : Int := k.wrap (BitVec.ofInt k.bits a ^^^ BitVec.ofInt k.bits b).toNat
def stR (xs : List (List D)) (i off : Nat) (ys : List D) : List (List D) := xs.modify i fun r => r.take off ++ ys ++ r.drop (off + ys.length)
def z3 : List D := [.i .i64 0]
def z83 : List D := [.i .i64 0, .i .i64 0, .i .i64 0, .i .i64 0, .i .i64 0, .i .i64 0, .i .i64 0, .b false, .l [], .s ⟨#[]⟩]
def z90 : List D := [.i .i64 0, .s ⟨#[]⟩]
def z92 : List D := [.i .i64 0, .s ⟨#[]⟩]
/-- laws.szEntry -/
def t73 (n1 : Int) (s2 : ByteArray) (n3 : Int) : Rs :=
  let y1 := w64 (n3 - (s2.size : Int))
  if decide (y1 < (0 : Int)) then
   some ([.one (.i .i64 (-1 : Int))], [])
  else
   some ([.one (.i .i64 y1)], [])
def zr73 : List DV := [.one (.i .i64 0)]
def zo73 : List (List D) := []
def A73 : List TA := [.agg [.i .i64, .s], .one (.i .i64)]
def v73 (vs : List Vr) : Rs := t73 (vI vs 0) (vS vs 1) (vI vs 2)
def g73 (xs : List DV) : Bool × List DV × List (List D) := gOf zr73 zo73 (argsT A73 v73 xs)
def l37o1 (l8 : List (List D)) (n10 : Int) (b12 : Bool) (q1 : Int → Int → Bool → Bool → Rs) (q2 : Int → Int → Bool → SV → Rs) : Nat → Int → Int → SV → SV → Rs
  | 0, _, _, _, _ => none
  | m + 1, n9, n11, v13, v14 =>
    let y1 := decide (n11 < (l8.length : Int))
    if y1 then
     let y2 := l8.getD n11.toNat []
     chk (decide (0 ≤ n11) && decide (n11 < l8.length) && isRow z90 y2) <|
     let y3 := t73 (asI (nthD y2 0)) (asS (nthD y2 1)) n9
     chk (okR zr73 zo73 y3) <|
     let y4 := asI (resC y3 0 0)
     let y5 := decide (y4 < (0 : Int))
     if y5 then
      q1 y4 n11 y1 y5
     else
      l37o1 l8 n10 b12 q1 q2 m y4 (w64 (n11 + (1 : Int))) (.d (.b y1)) (.d (.b y5))
    else
     q2 n9 n11 y1 (keepV [] v14)
/-- laws.szEntryS -/
def t37 (l1 : List (List D)) (n2 : Int) : Rs :=
  let y1 := w64 (n2 - (l1.length : Int))
  let y2 := decide (y1 < (0 : Int))
  if y2 then
   some ([.one (.i .i64 (-1 : Int))], [])
  else
   l37o1 l1 (0 : Int) y2
    (fun (n30 : Int) (n31 : Int) (b32 : Bool) (b33 : Bool) =>
     some ([.one (.i .i64 (-1 : Int))], []))
    (fun (n34 : Int) (n35 : Int) (b36 : Bool) (v37 : SV) =>
     some ([.one (.i .i64 n34)], [])) KK y1 (0 : Int) SV.undef SV.undef
def zr37 : List DV := [.one (.i .i64 0)]
def zo37 : List (List D) := []
def A37 : List TA := [.one (.l), .one (.i .i64)]
def v37 (vs : List Vr) : Rs := t37 (vL vs 0) (vI vs 1)
def g37 (xs : List DV) : Bool × List DV × List (List D) := gOf zr37 zo37 (argsT A37 v37 xs)
/-- laws.szIntS -/
def t38 (l1 : List (List D)) (n2 : Int) : Rs :=
  let y1 := w64 (n2 - (l1.length : Int))
  if decide (y1 < (0 : Int)) then
   some ([.one (.i .i64 (-1 : Int))], [])
  else
   some ([.one (.i .i64 y1)], [])
def zr38 : List DV := [.one (.i .i64 0)]
def zo38 : List (List D) := []
def A38 : List TA := [.one (.l), .one (.i .i64)]
def v38 (vs : List Vr) : Rs := t38 (vL vs 0) (vI vs 1)
def g38 (xs : List DV) : Bool × List DV × List (List D) := gOf zr38 zo38 (argsT A38 v38 xs)
/-- laws.szCore -/
def t10 (n1 : Int) (n2 : Int) (n3 : Int) (n4 : Int) (n5 : Int) (n6 : Int) (n7 : Int) (n8 : Int) (l9 : List (List D)) (n10 : Int) (l11 : List (List D)) (l12 : List (List D)) (l13 : List (List D)) (n14 : Int) : Rs :=
  chk (okR zr37 zo37 (t37 l9 n14)) <|
  let y1 := asI (resC (t37 l9 n14) 0 0)
  if decide (y1 < (0 : Int)) then
   some ([.one (.i .i64 (-1 : Int))], [])
  else
   let y2 := t38 l11 y1
   chk (okR zr38 zo38 y2) <|
   let y3 := asI (resC y2 0 0)
   if decide (y3 < (0 : Int)) then
    some ([.one (.i .i64 (-1 : Int))], [])
   else
    let y4 := t38 l12 y3
    chk (okR zr38 zo38 y4) <|
    let y5 := asI (resC y4 0 0)
    if decide (y5 < (0 : Int)) then
     some ([.one (.i .i64 (-1 : Int))], [])
    else
     let y6 := t38 l13 y5
     chk (okR zr38 zo38 y6) <|
     let y7 := asI (resC y6 0 0)
     if decide (y7 < (0 : Int)) then
      some ([.one (.i .i64 (-1 : Int))], [])
     else
      some ([.one (.i .i64 y7)], [])
def zr10 : List DV := [.one (.i .i64 0)]
def zo10 : List (List D) := []
def A10 : List TA := [.agg [.i .i64, .i .i64, .i .i64, .i .i64, .i .i64, .i .i64, .i .i64, .i .i64, .l, .i .i64, .l, .l, .l], .one (.i .i64)]
def v10 (vs : List Vr) : Rs := t10 (vI vs 0) (vI vs 1) (vI vs 2) (vI vs 3) (vI vs 4) (vI vs 5) (vI vs 6) (vI vs 7) (vL vs 8) (vI vs 9) (vL vs 10) (vL vs 11) (vL vs 12) (vI vs 13)
def g10 (xs : List DV) : Bool × List DV × List (List D) := gOf zr10 zo10 (argsT A10 v10 xs)
/-- laws.toEntry -/
def t75 (n1 : Int) (s2 : ByteArray) : Rs :=
  some ([.agg [.i .i64 n1, .s s2]], [])
def zr75 : List DV := [.agg [.i .i64 0, .s ⟨#[]⟩]]
def zo75 : List (List D) := []
def A75 : List TA := [.agg [.i .i64, .s]]
def v75 (vs : List Vr) : Rs := t75 (vI vs 0) (vS vs 1)
def g75 (xs : List DV) : Bool × List DV × List (List D) := gOf zr75 zo75 (argsT A75 v75 xs)
def l44o0 (l5 : List (List D)) (q1 : Int → Bool → List (List D) → Rs) : Nat → Int → SV → List (List D) → Rs
  | 0, _, _, _ => none
  | m + 1, n6, v7, l8 =>
    let y1 := decide (n6 < (l5.length : Int))
    if y1 then
     let y2 := l5.getD n6.toNat []
     chk (decide (0 ≤ n6) && decide (n6 < l5.length) && isRow z90 y2) <|
     let y3 := t75 (asI (nthD y2 0)) (asS (nthD y2 1))
     chk (okR zr75 zo75 y3) <|
     chk (decide (0 ≤ n6) && decide (n6 < l8.length)) <|
     chk (decide (2 ≤ 2 ∧ (n6.toNat) < l8.length)) <|
     l44o0 l5 q1 m (w64 (n6 + (1 : Int))) (.d (.b y1)) (stR l8 (n6.toNat) 0 [.i .i64 (asI (resC y3 0 0)), .s (asS (resC y3 0 1))])
    else
     q1 n6 y1 l8
/-- laws.toEntryS -/
def t44 (l1 : List (List D)) : Rs :=
  let y1 := (l1.length : Int)
  chk (decide (0 ≤ y1 ∧ y1 ≤ lim ∧ y1 = y1)) <|
  l44o0 l1
   (fun (n16 : Int) (b17 : Bool) (l18 : List (List D)) =>
    some ([.one (.l l18)], [])) KK (0 : Int) SV.undef (List.replicate y1.toNat z92)
def zr44 : List DV := [.one (.l [])]
def zo44 : List (List D) := []
def A44 : List TA := [.one (.l)]
def v44 (vs : List Vr) : Rs := t44 (vL vs 0)
def g44 (xs : List DV) : Bool × List DV × List (List D) := gOf zr44 zo44 (argsT A44 v44 xs)
def l45o0 (l5 : List (List D)) (q1 : Int → Bool → List (List D) → Rs) : Nat → Int → SV → List (List D) → Rs
  | 0, _, _, _ => none
  | m + 1, n6, v7, l8 =>
    let y1 := decide (n6 < (l5.length : Int))
    if y1 then
     let y2 := l5.getD n6.toNat []
     chk (decide (0 ≤ n6) && decide (n6 < l5.length) && isRow z3 y2) <|
     chk (decide (0 ≤ n6) && decide (n6 < l8.length)) <|
     chk (decide (1 ≤ 1 ∧ (n6.toNat) < l8.length)) <|
     l45o0 l5 q1 m (w64 (n6 + (1 : Int))) (.d (.b y1)) (stR l8 (n6.toNat) 0 [.i .i64 (asI (nthD y2 0))])
    else
     q1 n6 y1 l8
/-- laws.toIntS -/
def t45 (l1 : List (List D)) : Rs :=
  let y1 := (l1.length : Int)
  chk (decide (0 ≤ y1 ∧ y1 ≤ lim ∧ y1 = y1)) <|
  l45o0 l1
   (fun (n16 : Int) (b17 : Bool) (l18 : List (List D)) =>
    some ([.one (.l l18)], [])) KK (0 : Int) SV.undef (List.replicate y1.toNat z3)
def zr45 : List DV := [.one (.l [])]
def zo45 : List (List D) := []
def A45 : List TA := [.one (.l)]
def v45 (vs : List Vr) : Rs := t45 (vL vs 0)
def g45 (xs : List DV) : Bool × List DV × List (List D) := gOf zr45 zo45 (argsT A45 v45 xs)
/-- laws.toCore -/
def t12 (n1 : Int) (n2 : Int) (n3 : Int) (n4 : Int) (n5 : Int) (n6 : Int) (n7 : Int) (n8 : Int) (l9 : List (List D)) (n10 : Int) (l11 : List (List D)) (l12 : List (List D)) (l13 : List (List D)) : Rs :=
  chk (okR zr44 zo44 (t44 l9)) <|
  chk (okR zr45 zo45 (t45 l11)) <|
  chk (okR zr45 zo45 (t45 l12)) <|
  chk (okR zr45 zo45 (t45 l13)) <|
  some ([.agg [.i .i64 n1, .i .i64 n2, .i .i64 n3, .i .i64 n4, .i .i64 n5, .i .i64 n6, .i .i64 n7, .i .i64 n8, .l (asL (resC (t44 l9) 0 0)), .i .i64 n10, .l (asL (resC (t45 l11) 0 0)), .l (asL (resC (t45 l12) 0 0)), .l (asL (resC (t45 l13) 0 0))]], [])
def zr12 : List DV := [.agg [.i .i64 0, .i .i64 0, .i .i64 0, .i .i64 0, .i .i64 0, .i .i64 0, .i .i64 0, .i .i64 0, .l [], .i .i64 0, .l [], .l [], .l []]]
def zo12 : List (List D) := []
def A12 : List TA := [.agg [.i .i64, .i .i64, .i .i64, .i .i64, .i .i64, .i .i64, .i .i64, .i .i64, .l, .i .i64, .l, .l, .l]]
def v12 (vs : List Vr) : Rs := t12 (vI vs 0) (vI vs 1) (vI vs 2) (vI vs 3) (vI vs 4) (vI vs 5) (vI vs 6) (vI vs 7) (vL vs 8) (vI vs 9) (vL vs 10) (vL vs 11) (vL vs 12)
def g12 (xs : List DV) : Bool × List DV × List (List D) := gOf zr12 zo12 (argsT A12 v12 xs)
/-- spec.l1In -/
def t39 (n1 : Int) (n2 : Int) (n3 : Int) : Rs :=
  some ([.one (.b ((decide (n1 ≥ n2)) && (decide (n1 ≤ n3))))], [])
def zr39 : List DV := [.one (.b false)]
def zo39 : List (List D) := []
def A39 : List TA := [.one (.i .i64), .one (.i .i64), .one (.i .i64)]
def v39 (vs : List Vr) : Rs := t39 (vI vs 0) (vI vs 1) (vI vs 2)
def g39 (xs : List DV) : Bool × List DV × List (List D) := gOf zr39 zo39 (argsT A39 v39 xs)
/-- spec.l13Kept -/
def t41 (n1 : Int) (n2 : Int) (n3 : Int) (n4 : Int) (n5 : Int) (n6 : Int) (n7 : Int) (n8 : Int) (l9 : List (List D)) (n10 : Int) (l11 : List (List D)) (l12 : List (List D)) (l13 : List (List D)) (s14 : ByteArray) : Rs :=
  chk ((flatR 2 l9) && decide (([] : List (List D)).length + l9.length ≤ lim)) <|
  let k1 := fun (n15 : Int) (n16 : Int) (s17 : ByteArray) =>
   some ([.agg [.i .i64 n3, .i .i64 n4, .i .i64 n15, .i .i64 n16, .s s17, .l (([] : List (List D)) ++ l9)]], [])
  if n7 != (0 : Int) then
   k1 n7 n8 s14
  else
   k1 (0 : Int) (0 : Int) (⟨#[]⟩ : ByteArray)
def zr41 : List DV := [.agg [.i .i64 0, .i .i64 0, .i .i64 0, .i .i64 0, .s ⟨#[]⟩, .l []]]
def zo41 : List (List D) := []
def A41 : List TA := [.agg [.i .i64, .i .i64, .i .i64, .i .i64, .i .i64, .i .i64, .i .i64, .i .i64, .l, .i .i64, .l, .l, .l], .one (.s)]
def v41 (vs : List Vr) : Rs := t41 (vI vs 0) (vI vs 1) (vI vs 2) (vI vs 3) (vI vs 4) (vI vs 5) (vI vs 6) (vI vs 7) (vL vs 8) (vI vs 9) (vL vs 10) (vL vs 11) (vL vs 12) (vS vs 13)
def g41 (xs : List DV) : Bool × List DV × List (List D) := gOf zr41 zo41 (argsT A41 v41 xs)
/-- spec.l3Place -/
def t74 (n1 : Int) (n2 : Int) : Rs :=
  if n1 == (0 : Int) then
   some ([.one (.b (n2 == (0 : Int)))], [])
  else
   let y1 := t39 n1 (1 : Int) (100000 : Int)
   chk (okR zr39 zo39 y1) <|
   let y2 := t39 n2 (1 : Int) (100000 : Int)
   let y3 := asB (resC y1 0 0)
   chk ((okR zr39 zo39 y2) || !y3) <|
   some ([.one (.b (y3 && (asB (resC y2 0 0))))], [])
def zr74 : List DV := [.one (.b false)]
def zo74 : List (List D) := []
def A74 : List TA := [.one (.i .i64), .one (.i .i64)]
def v74 (vs : List Vr) : Rs := t74 (vI vs 0) (vI vs 1)
def g74 (xs : List DV) : Bool × List DV × List (List D) := gOf zr74 zo74 (argsT A74 v74 xs)
def l40o1 (n23 : Int) (n24 : Int) (n25 : Int) (n26 : Int) (s27 : ByteArray) (l28 : List (List D)) (b29 : Bool) (b32 : Bool) (n35 : Int) (n36 : Int) (n37 : Int) (n38 : Int) (s39 : ByteArray) (l40 : List (List D)) (q1 : Int → Int → Bool → Bool → Int → ByteArray → Rs) (q2 : Int → Int → Bool → SV → Rs) : Nat → Int → Int → SV → SV → Rs
  | 0, _, _, _, _ => none
  | m + 1, n30, n31, v33, v34 =>
    let y1 := decide (n31 < (l40.length : Int))
    if y1 then
     let y2 := l40.getD n31.toNat []
     chk (decide (0 ≤ n31) && decide (n31 < l40.length) && isRow z92 y2) <|
     let y3 := asI (nthD y2 0)
     let y4 := asS (nthD y2 1)
     let y5 := (((decide (y3 < (1 : Int))) || (decide (y3 < n30))) || (decide (y3 > n35))) || (decide ((y4.size : Int) > (1600 : Int)))
     if y5 then
      q1 n30 n31 y1 y5 y3 y4
     else
      l40o1 n23 n24 n25 n26 s27 l28 b29 b32 n35 n36 n37 n38 s39 l40 q1 q2 m y3 (w64 (n31 + (1 : Int))) (.d (.b y1)) (.d (.b y5))
    else
     q2 n30 n31 y1 (keepV [64] v34)
/-- spec.KeptOk -/
def t40 (n1 : Int) (n2 : Int) (n3 : Int) (n4 : Int) (s5 : ByteArray) (l6 : List (List D)) : Rs :=
  let y1 := t39 n1 (0 : Int) (100000 : Int)
  chk (okR zr39 zo39 y1) <|
  let y2 := t39 n2 (-1 : Int) (4 : Int)
  let y3 := !(asB (resC y1 0 0))
  chk ((okR zr39 zo39 y2) || !(!y3)) <|
  let y4 := y3 || (!(asB (resC y2 0 0)))
  chk ((okR zr74 zo74 (t74 n3 n4)) || !(!y4)) <|
  let y5 := (((((y4 || (!(asB (resC (t74 n3 n4) 0 0)))) || ((n3 == (0 : Int)) && (!(s5.toList == (⟨#[]⟩ : ByteArray).toList)))) || (decide ((s5.size : Int) > (20000 : Int)))) || (decide (n4 > n1))) || (decide ((l6.length : Int) > (60 : Int)))) || (decide ((w64 (n3 + (l6.length : Int))) > (100000 : Int)))
  if y5 then
   some ([.one (.b false)], [])
  else
   l40o1 n1 n2 n3 n4 s5 l6 false y5 n1 n2 n3 n4 s5 l6
    (fun (n69 : Int) (n70 : Int) (b71 : Bool) (b72 : Bool) (n73 : Int) (s74 : ByteArray) =>
     some ([.one (.b false)], []))
    (fun (n75 : Int) (n76 : Int) (b77 : Bool) (v78 : SV) =>
     some ([.one (.b true)], [])) KK n4 (0 : Int) SV.undef SV.undef
def zr40 : List DV := [.one (.b false)]
def zo40 : List (List D) := []
def A40 : List TA := [.agg [.i .i64, .i .i64, .i .i64, .i .i64, .s, .l]]
def v40 (vs : List Vr) : Rs := t40 (vI vs 0) (vI vs 1) (vI vs 2) (vI vs 3) (vS vs 4) (vL vs 5)
def g40 (xs : List DV) : Bool × List DV × List (List D) := gOf zr40 zo40 (argsT A40 v40 xs)
/-- spec.l13Last -/
def t42 (n1 : Int) (n2 : Int) (n3 : Int) (n4 : Int) (n5 : Int) (n6 : Int) (n7 : Int) (n8 : Int) (l9 : List (List D)) (n10 : Int) (l11 : List (List D)) (l12 : List (List D)) (l13 : List (List D)) : Rs :=
  some ([.one (.i .i64 (w64 (n7 + (l9.length : Int))))], [])
def zr42 : List DV := [.one (.i .i64 0)]
def zo42 : List (List D) := []
def A42 : List TA := [.agg [.i .i64, .i .i64, .i .i64, .i .i64, .i .i64, .i .i64, .i .i64, .i .i64, .l, .i .i64, .l, .l, .l]]
def v42 (vs : List Vr) : Rs := t42 (vI vs 0) (vI vs 1) (vI vs 2) (vI vs 3) (vI vs 4) (vI vs 5) (vI vs 6) (vI vs 7) (vL vs 8) (vI vs 9) (vL vs 10) (vL vs 11) (vL vs 12)
def g42 (xs : List DV) : Bool × List DV × List (List D) := gOf zr42 zo42 (argsT A42 v42 xs)
def l43o0 (l7 : List (List D)) (n8 : Int) (b9 : Bool) (q1 : Int → Bool → Bool → Rs) (q2 : Int → Bool → SV → Rs) : Nat → Int → SV → SV → Rs
  | 0, _, _, _ => none
  | m + 1, n10, v11, v12 =>
    let y1 := decide (n10 < (l7.length : Int))
    if y1 then
     let y2 := l7.getD n10.toNat []
     chk (decide (0 ≤ n10) && decide (n10 < l7.length) && isRow z3 y2) <|
     let y3 := (asI (nthD y2 0)) == n8
     if y3 then
      q1 n10 y1 y3
     else
      l43o0 l7 n8 b9 q1 q2 m (w64 (n10 + (1 : Int))) (.d (.b y1)) (.d (.b y3))
    else
     q2 n10 y1 (keepV [] v12)
/-- spec.l13In -/
def t43 (l1 : List (List D)) (n2 : Int) : Rs :=
  l43o0 l1 n2 false
   (fun (n25 : Int) (b26 : Bool) (b27 : Bool) =>
    some ([.one (.b true)], []))
   (fun (n28 : Int) (b29 : Bool) (v30 : SV) =>
    some ([.one (.b false)], [])) KK (0 : Int) SV.undef SV.undef
def zr43 : List DV := [.one (.b false)]
def zo43 : List (List D) := []
def A43 : List TA := [.one (.l), .one (.i .i64)]
def v43 (vs : List Vr) : Rs := t43 (vL vs 0) (vI vs 1)
def g43 (xs : List DV) : Bool × List DV × List (List D) := gOf zr43 zo43 (argsT A43 v43 xs)
def l11o8 (n164 : Int) (n165 : Int) (n166 : Int) (n167 : Int) (n168 : Int) (n169 : Int) (n170 : Int) (n171 : Int) (l172 : List (List D)) (n173 : Int) (l174 : List (List D)) (l175 : List (List D)) (l176 : List (List D)) (b177 : Bool) (b179 : Bool) (n180 : Int) (b181 : Bool) (b182 : Bool) (b183 : Bool) (b184 : Bool) (n187 : Int) (n188 : Int) (n189 : Int) (n190 : Int) (n191 : Int) (n192 : Int) (n193 : Int) (n194 : Int) (l195 : List (List D)) (n196 : Int) (l197 : List (List D)) (l198 : List (List D)) (l199 : List (List D)) (l200 : List (List D)) (q1 : Int → Bool → Bool → Rs) (q2 : Int → Bool → SV → Rs) : Nat → Int → SV → SV → Rs
  | 0, _, _, _ => none
  | m + 1, n178, v185, v186 =>
    let y1 := decide (n178 < n188)
    if y1 then
     let y2 := l199.getD n178.toNat []
     chk (decide (0 ≤ n178) && decide (n178 < l199.length) && isRow z3 y2) <|
     let y3 := l198.getD n178.toNat []
     let y4 := decide ((asI (nthD y2 0)) < (0 : Int))
     chk ((decide (0 ≤ n178) && decide (n178 < l198.length) && isRow z3 y3) || !(!y4)) <|
     let y5 := l199.getD n178.toNat []
     chk ((decide (0 ≤ n178) && decide (n178 < l199.length) && isRow z3 y5) || !(!y4)) <|
     let y6 := l198.getD n178.toNat []
     let y7 := y4 || (decide ((asI (nthD y3 0)) ≤ (asI (nthD y5 0))))
     chk ((decide (0 ≤ n178) && decide (n178 < l198.length) && isRow z3 y6) || !(!y7)) <|
     let y8 := t42 n187 n188 n189 n190 n191 n192 n193 n194 l195 n196 l197 l198 l199
     chk ((okR zr42 zo42 y8) || !(!y7)) <|
     let y9 := y7 || (decide ((asI (nthD y6 0)) > (w64 ((asI (resC y8 0 0)) + (1 : Int)))))
     if y9 then
      q1 n178 y1 y9
     else
      l11o8 n164 n165 n166 n167 n168 n169 n170 n171 l172 n173 l174 l175 l176 b177 b179 n180 b181 b182 b183 b184 n187 n188 n189 n190 n191 n192 n193 n194 l195 n196 l197 l198 l199 l200 q1 q2 m (w64 (n178 + (1 : Int))) (.d (.b y1)) (.d (.b y9))
    else
     q2 n178 y1 (keepV [64, 1925] v186)
def l11o3 (n47 : Int) (n48 : Int) (n49 : Int) (n50 : Int) (n51 : Int) (n52 : Int) (n53 : Int) (n54 : Int) (l55 : List (List D)) (n56 : Int) (l57 : List (List D)) (l58 : List (List D)) (l59 : List (List D)) (b60 : Bool) (b62 : Bool) (n63 : Int) (b64 : Bool) (b65 : Bool) (n68 : Int) (n69 : Int) (n70 : Int) (n71 : Int) (n72 : Int) (n73 : Int) (n74 : Int) (n75 : Int) (l76 : List (List D)) (n77 : Int) (l78 : List (List D)) (l79 : List (List D)) (l80 : List (List D)) (l81 : List (List D)) (q1 : Int → Bool → Bool → Rs) (q2 : Int → Bool → SV → Rs) : Nat → Int → SV → SV → Rs
  | 0, _, _, _ => none
  | m + 1, n61, v66, v67 =>
    let y1 := decide (n61 < (l78.length : Int))
    if y1 then
     let y2 := l78.getD n61.toNat []
     chk (decide (0 ≤ n61) && decide (n61 < l78.length) && isRow z3 y2) <|
     let y3 := t39 (asI (nthD y2 0)) (0 : Int) (w64 (n69 - (1 : Int)))
     chk (okR zr39 zo39 y3) <|
     let y4 := w64 (n61 - (1 : Int))
     let y5 := l78.getD y4.toNat []
     let y6 := !(asB (resC y3 0 0))
     let y7 := !y6
     let y8 := decide (n61 > (0 : Int))
     chk ((decide (0 ≤ y4) && decide (y4 < l78.length) && isRow z3 y5) || !(y7 && y8)) <|
     let y9 := l78.getD n61.toNat []
     chk ((decide (0 ≤ n61) && decide (n61 < l78.length) && isRow z3 y9) || !(y7 && y8)) <|
     let y10 := y6 || (y8 && (decide ((asI (nthD y5 0)) ≥ (asI (nthD y9 0)))))
     if y10 then
      q1 n61 y1 y10
     else
      l11o3 n47 n48 n49 n50 n51 n52 n53 n54 l55 n56 l57 l58 l59 b60 b62 n63 b64 b65 n68 n69 n70 n71 n72 n73 n74 n75 l76 n77 l78 l79 l80 l81 q1 q2 m (w64 (n61 + (1 : Int))) (.d (.b y1)) (.d (.b y10))
    else
     q2 n61 y1 (keepV [64, 1925] v67)
/-- spec.CoreOk -/
def t11 (n1 : Int) (n2 : Int) (n3 : Int) (n4 : Int) (n5 : Int) (n6 : Int) (n7 : Int) (n8 : Int) (l9 : List (List D)) (n10 : Int) (l11 : List (List D)) (l12 : List (List D)) (l13 : List (List D)) : Rs :=
  let y1 := t39 n2 (1 : Int) (5 : Int)
  chk (okR zr39 zo39 y1) <|
  let y2 := t39 n1 (0 : Int) (w64 (n2 - (1 : Int)))
  let y3 := !(asB (resC y1 0 0))
  chk ((okR zr39 zo39 y2) || !(!y3)) <|
  let y4 := (y3 || (!(asB (resC y2 0 0)))) || ((n7 == (0 : Int)) && (n8 != (0 : Int)))
  if !y4 then
   let y5 := t41 n1 n2 n3 n4 n5 n6 n7 n8 l9 n10 l11 l12 l13 (⟨#[]⟩ : ByteArray)
   chk (okR zr41 zo41 y5) <|
   let y6 := asL (resC y5 0 5)
   let y7 := t40 (asI (resC y5 0 0)) (asI (resC y5 0 1)) (asI (resC y5 0 2)) (asI (resC y5 0 3)) (asS (resC y5 0 4)) y6
   chk ((okR zr40 zo40 y7) || !(!y4)) <|
   let y8 := t42 n1 n2 n3 n4 n5 n6 n7 n8 l9 n10 l11 l12 l13
   let y9 := (y4 || (!(asB (resC y7 0 0)))) || (decide (n4 ≥ n2))
   chk ((okR zr42 zo42 y8) || !(!y9)) <|
   let y10 := t39 n10 n7 (asI (resC y8 0 0))
   chk ((okR zr39 zo39 y10) || !(!y9)) <|
   let y11 := y9 || (!(asB (resC y10 0 0)))
   if y11 then
    some ([.one (.b false)], [])
   else
    let y12 := n5 == (1 : Int)
    if y12 then
     let y13 := t39 n6 (-1 : Int) (w64 (n2 - (1 : Int)))
     chk (okR zr39 zo39 y13) <|
     some ([.one (.b (((((asB (resC y13 0 0)) && (n6 != n1)) && ((l11.length : Int) == (0 : Int))) && ((l12.length : Int) == (0 : Int))) && ((l13.length : Int) == (0 : Int))))], [])
    else
     let y14 := n5 == (2 : Int)
     if y14 then
      l11o3 n1 n2 n3 n4 n5 n6 n7 n8 l9 n10 l11 l12 l13 false y11 n5 y12 y14 n1 n2 n3 n4 n5 n6 n7 n8 l9 n10 l11 l12 l13 y6
       (fun (n123 : Int) (b124 : Bool) (b125 : Bool) =>
        some ([.one (.b false)], []))
       (fun (n126 : Int) (b127 : Bool) (v128 : SV) =>
        let y15 := ((decide (n3 ≥ (1 : Int))) && (n4 == n1)) && (n6 == (-1 : Int))
        chk ((okR zr43 zo43 (t43 l11 n1)) || !y15) <|
        some ([.one (.b ((((y15 && (asB (resC (t43 l11 n1) 0 0))) && (decide ((w64 ((2 : Int) * (l11.length : Int))) ≤ n2))) && ((l12.length : Int) == (0 : Int))) && ((l13.length : Int) == (0 : Int))))], [])) KK (0 : Int) SV.undef SV.undef
     else
      let y16 := n5 == (3 : Int)
      if y16 then
       let y17 := l13.getD n1.toNat []
       let y18 := (((((decide (n3 < (1 : Int))) || (n4 != n1)) || (n6 != n1)) || (decide ((l11.length : Int) > (0 : Int)))) || ((l12.length : Int) != n2)) || ((l13.length : Int) != n2)
       chk ((decide (0 ≤ n1) && decide (n1 < l13.length) && isRow z3 y17) || !(!y18)) <|
       let y19 := t42 n1 n2 n3 n4 n5 n6 n7 n8 l9 n10 l11 l12 l13
       chk ((okR zr42 zo42 y19) || !(!y18)) <|
       let y20 := y18 || ((asI (nthD y17 0)) != (asI (resC y19 0 0)))
       if y20 then
        some ([.one (.b false)], [])
       else
        l11o8 n1 n2 n3 n4 n5 n6 n7 n8 l9 n10 l11 l12 l13 false y11 n5 y12 y14 y16 y20 n1 n2 n3 n4 n5 n6 n7 n8 l9 n10 l11 l12 l13 y6
         (fun (n244 : Int) (b245 : Bool) (b246 : Bool) =>
          some ([.one (.b false)], []))
         (fun (n247 : Int) (b248 : Bool) (v249 : SV) =>
          some ([.one (.b true)], [])) KK (0 : Int) SV.undef SV.undef
      else
       some ([.one (.b false)], [])
  else
   if !y4 then
    none
   else
    if !y4 then
     none
    else
     chk (y4) <|
     let y21 := t42 n1 n2 n3 n4 n5 n6 n7 n8 l9 n10 l11 l12 l13
     chk ((okR zr42 zo42 y21) || !false) <|
     chk ((okR zr39 zo39 (t39 n10 n7 (asI (resC y21 0 0)))) || !false) <|
     some ([.one (.b false)], [])
def zr11 : List DV := [.one (.b false)]
def zo11 : List (List D) := []
def A11 : List TA := [.agg [.i .i64, .i .i64, .i .i64, .i .i64, .i .i64, .i .i64, .i .i64, .i .i64, .l, .i .i64, .l, .l, .l]]
def v11 (vs : List Vr) : Rs := t11 (vI vs 0) (vI vs 1) (vI vs 2) (vI vs 3) (vI vs 4) (vI vs 5) (vI vs 6) (vI vs 7) (vL vs 8) (vI vs 9) (vL vs 10) (vL vs 11) (vL vs 12)
def g11 (xs : List DV) : Bool × List DV × List (List D) := gOf zr11 zo11 (argsT A11 v11 xs)
/-- spec.l13Copy -/
def t61 (n1 : Int) (n2 : Int) (n3 : Int) (n4 : Int) (n5 : Int) (n6 : Int) (n7 : Int) (n8 : Int) (l9 : List (List D)) (n10 : Int) (l11 : List (List D)) (l12 : List (List D)) (l13 : List (List D)) : Rs :=
  chk ((flatR 2 l9) && decide (([] : List (List D)).length + l9.length ≤ lim)) <|
  chk ((flatR 1 l11) && decide (([] : List (List D)).length + l11.length ≤ lim)) <|
  chk ((flatR 1 l12) && decide (([] : List (List D)).length + l12.length ≤ lim)) <|
  chk ((flatR 1 l13) && decide (([] : List (List D)).length + l13.length ≤ lim)) <|
  some ([.agg [.i .i64 n1, .i .i64 n2, .i .i64 n3, .i .i64 n4, .i .i64 n5, .i .i64 n6, .i .i64 n7, .i .i64 n8, .l (([] : List (List D)) ++ l9), .i .i64 n10, .l (([] : List (List D)) ++ l11), .l (([] : List (List D)) ++ l12), .l (([] : List (List D)) ++ l13)]], [])
def zr61 : List DV := [.agg [.i .i64 0, .i .i64 0, .i .i64 0, .i .i64 0, .i .i64 0, .i .i64 0, .i .i64 0, .i .i64 0, .l [], .i .i64 0, .l [], .l [], .l []]]
def zo61 : List (List D) := []
def A61 : List TA := [.agg [.i .i64, .i .i64, .i .i64, .i .i64, .i .i64, .i .i64, .i .i64, .i .i64, .l, .i .i64, .l, .l, .l]]
def v61 (vs : List Vr) : Rs := t61 (vI vs 0) (vI vs 1) (vI vs 2) (vI vs 3) (vI vs 4) (vI vs 5) (vI vs 6) (vI vs 7) (vL vs 8) (vI vs 9) (vL vs 10) (vL vs 11) (vL vs 12)
def g61 (xs : List DV) : Bool × List DV × List (List D) := gOf zr61 zo61 (argsT A61 v61 xs)
/-- spec.l13TermAt -/
def t62 (n1 : Int) (n2 : Int) (n3 : Int) (n4 : Int) (n5 : Int) (n6 : Int) (n7 : Int) (n8 : Int) (l9 : List (List D)) (n10 : Int) (l11 : List (List D)) (l12 : List (List D)) (l13 : List (List D)) (n14 : Int) : Rs :=
  if n14 == n7 then
   some ([.one (.i .i64 n8)], [])
  else
   let y1 := w64 ((w64 (n14 - n7)) - (1 : Int))
   let y2 := l9.getD y1.toNat []
   chk (decide (0 ≤ y1) && decide (y1 < l9.length) && isRow z92 y2) <|
   some ([.one (.i .i64 (asI (nthD y2 0)))], [])
def zr62 : List DV := [.one (.i .i64 0)]
def zo62 : List (List D) := []
def A62 : List TA := [.agg [.i .i64, .i .i64, .i .i64, .i .i64, .i .i64, .i .i64, .i .i64, .i .i64, .l, .i .i64, .l, .l, .l], .one (.i .i64)]
def v62 (vs : List Vr) : Rs := t62 (vI vs 0) (vI vs 1) (vI vs 2) (vI vs 3) (vI vs 4) (vI vs 5) (vI vs 6) (vI vs 7) (vL vs 8) (vI vs 9) (vL vs 10) (vL vs 11) (vL vs 12) (vI vs 13)
def g62 (xs : List DV) : Bool × List DV × List (List D) := gOf zr62 zo62 (argsT A62 v62 xs)
def l83o100002 (n242 : Int) (n243 : Int) (n244 : Int) (n245 : Int) (n246 : Int) (n247 : Int) (n248 : Int) (n249 : Int) (n250 : Int) (n251 : Int) (b254 : Bool) (n258 : Int) (n259 : Int) (n260 : Int) (n261 : Int) (n262 : Int) (n263 : Int) (n264 : Int) (n265 : Int) (n266 : Int) (n267 : Int) (n268 : Int) (n269 : Int) (n270 : Int) (n271 : Int) (n272 : Int) (n273 : Int) (n274 : Int) (n275 : Int) (l276 : List (List D)) (l277 : List (List D)) (l278 : List (List D)) (l279 : List (List D)) (q1 : Int → Int → Bool → SV → SV → Rs) : Nat → Int → Int → SV → SV → SV → Rs
  | 0, _, _, _, _, _ => none
  | m + 1, n252, n253, v255, v256, v257 =>
    let y1 := decide (n253 < n259)
    if y1 then
     chk (decide (0 ≤ n253) && decide (n253 < l279.length)) <|
     let y2 := l279.getD (n253.toNat) []
     chk (decide (1 ≤ y2.length) && isF z3 0 y2) <|
     let k1 := fun (n280 : Int) =>
      let y3 := decide ((asI (nthD y2 0)) ≥ n251)
      l83o100002 n242 n243 n244 n245 n246 n247 n248 n249 n250 n251 b254 n258 n259 n260 n261 n262 n263 n264 n265 n266 n267 n268 n269 n270 n271 n272 n273 n274 n275 l276 l277 l278 l279 q1 m n280 (w64 (n253 + (1 : Int))) (.d (.b y1)) (.d (.b y3)) (keepV [64, 128, 4105, 4107, 4108, 4109] v257)
     let y4 := decide ((asI (nthD y2 0)) ≥ n251)
     if y4 then
      k1 (w64 (n252 + (1 : Int)))
     else
      k1 n252
    else
     q1 n252 n253 y1 (keepV [64, 128, 4105, 4107, 4108, 4109] v256) (keepV [64, 128, 4105, 4107, 4108, 4109] v257)
def l83o0 (n165 : Int) (n166 : Int) (n167 : Int) (n168 : Int) (n169 : Int) (n170 : Int) (n171 : Int) (n172 : Int) (n173 : Int) (n181 : Int) (n182 : Int) (n183 : Int) (n184 : Int) (n185 : Int) (n186 : Int) (n187 : Int) (n188 : Int) (n189 : Int) (n190 : Int) (n191 : Int) (n192 : Int) (n193 : Int) (n194 : Int) (n195 : Int) (n196 : Int) (n197 : Int) (n198 : Int) (l199 : List (List D)) (l200 : List (List D)) (l201 : List (List D)) (l202 : List (List D)) (q1 : Int → Int → Int → Bool → Bool → SV → Bool → Rs) (q2 : Int → SV → SV → Bool → SV → SV → SV → Rs) : Nat → Int → SV → SV → SV → SV → SV → SV → Rs
  | 0, _, _, _, _, _, _, _ => none
  | m + 1, n174, v175, v176, v177, v178, v179, v180 =>
    let y1 := decide (n174 > n189)
    if y1 then
     l83o100002 n165 n166 n167 n168 n169 n170 n171 n172 n173 n174 y1 n181 n182 n183 n184 n185 n186 n187 n188 n189 n190 n191 n192 n193 n194 n195 n196 n197 n198 l199 l200 l201 l202
      (fun (n324 : Int) (n325 : Int) (b326 : Bool) (v327 : SV) (v328 : SV) =>
       let y2 := t62 n181 n182 n183 n184 n185 n186 n187 n188 l199 n189 l200 l201 l202 n174
       chk (okR zr62 zo62 y2) <|
       let y3 := ((asI (resC y2 0 0)) == n183) && (decide ((w64 ((2 : Int) * n324)) > n182))
       if y3 then
        q1 n174 n324 n325 y1 b326 v327 y3
       else
        l83o0 n165 n166 n167 n168 n169 n170 n171 n172 n173 n181 n182 n183 n184 n185 n186 n187 n188 n189 n190 n191 n192 n193 n194 n195 n196 n197 n198 l199 l200 l201 l202 q1 q2 m (w64 (n174 - (1 : Int))) (.d (.i .i64 n324)) (.d (.i .i64 n325)) (.d (.b y1)) (.d (.b b326)) (keepV [64, 128, 4105, 4107, 4108, 4109] v327) (.d (.b y3))) KK (0 : Int) (0 : Int) v178 v179 v180
    else
     q2 n174 (keepV [64, 128, 4105, 4107, 4108, 4109] v175) (keepV [64, 128, 4105, 4107, 4108, 4109] v176) y1 (keepV [64, 128, 4105, 4107, 4108, 4109] v178) (keepV [64, 128, 4105, 4107, 4108, 4109] v179) (keepV [64, 128, 4105, 4107, 4108, 4109] v180)
/-- spec.l13Count -/
def t83 (n1 : Int) (n2 : Int) (n3 : Int) (n4 : Int) (n5 : Int) (n6 : Int) (n7 : Int) (n8 : Int) (l9 : List (List D)) (n10 : Int) (l11 : List (List D)) (l12 : List (List D)) (l13 : List (List D)) : Rs :=
  let y1 := t42 n1 n2 n3 n4 n5 n6 n7 n8 l9 n10 l11 l12 l13
  chk (okR zr42 zo42 y1) <|
  l83o0 n1 n2 n3 n4 n5 n6 n7 n8 n10 n1 n2 n3 n4 n5 n6 n7 n8 n10 (0 : Int) (0 : Int) (0 : Int) (0 : Int) (0 : Int) (0 : Int) (0 : Int) (0 : Int) (0 : Int) l9 l11 l12 l13
   (fun (n381 : Int) (n382 : Int) (n383 : Int) (b384 : Bool) (b385 : Bool) (v386 : SV) (b387 : Bool) =>
    some ([.agg [.i .i64 n1, .i .i64 n2, .i .i64 n3, .i .i64 n4, .i .i64 n5, .i .i64 n6, .i .i64 n7, .i .i64 n8, .l l9, .i .i64 n381, .l l11, .l l12, .l l13]], []))
   (fun (n388 : Int) (v389 : SV) (v390 : SV) (b391 : Bool) (v392 : SV) (v393 : SV) (v394 : SV) =>
    some ([.agg [.i .i64 n1, .i .i64 n2, .i .i64 n3, .i .i64 n4, .i .i64 n5, .i .i64 n6, .i .i64 n7, .i .i64 n8, .l l9, .i .i64 n10, .l l11, .l l12, .l l13]], [])) KK (asI (resC y1 0 0)) SV.undef SV.undef SV.undef SV.undef SV.undef SV.undef
def zr83 : List DV := [.agg [.i .i64 0, .i .i64 0, .i .i64 0, .i .i64 0, .i .i64 0, .i .i64 0, .i .i64 0, .i .i64 0, .l [], .i .i64 0, .l [], .l [], .l []]]
def zo83 : List (List D) := []
def A83 : List TA := [.agg [.i .i64, .i .i64, .i .i64, .i .i64, .i .i64, .i .i64, .i .i64, .i .i64, .l, .i .i64, .l, .l, .l]]
def v83 (vs : List Vr) : Rs := t83 (vI vs 0) (vI vs 1) (vI vs 2) (vI vs 3) (vI vs 4) (vI vs 5) (vI vs 6) (vI vs 7) (vL vs 8) (vI vs 9) (vL vs 10) (vL vs 11) (vL vs 12)
def g83 (xs : List DV) : Bool × List DV × List (List D) := gOf zr83 zo83 (argsT A83 v83 xs)
/-- spec.l13Put -/
def t69 (n1 : Int) (n2 : Int) (n3 : Int) (n4 : Int) (n5 : Int) (n6 : Int) (n7 : Int) (n8 : Int) (l9 : List (List D)) (n10 : Int) (l11 : List (List D)) (l12 : List (List D)) (l13 : List (List D)) (s14 : ByteArray) : Rs :=
  let y1 := t42 n1 n2 n3 n4 n5 n6 n7 n8 l9 n10 l11 l12 l13
  let y2 := decide ((l9.length : Int) < (60 : Int))
  chk ((okR zr42 zo42 y1) || !y2) <|
  if y2 && (decide ((asI (resC y1 0 0)) < (100000 : Int))) then
   let y3 := ([[.i .i64 n3, .s s14]] : List (List D))
   chk ((flatR 2 y3) && decide (l9.length + y3.length ≤ lim)) <|
   let y4 := l9 ++ y3
   let y5 := t42 n1 n2 n3 n4 n5 n6 n7 n8 y4 n10 l11 l12 l13
   chk (okR zr42 zo42 y5) <|
   chk (decide (0 ≤ n1) && decide (n1 < l13.length)) <|
   chk (decide (1 ≤ 1 ∧ (n1.toNat) < l13.length)) <|
   let y6 := stR l13 (n1.toNat) 0 [.i .i64 (asI (resC y5 0 0))]
   let y7 := t42 n1 n2 n3 n4 n5 n6 n7 n8 y4 n10 l11 l12 y6
   chk (okR zr42 zo42 y7) <|
   chk (decide (0 ≤ n1) && decide (n1 < l12.length)) <|
   chk (decide (1 ≤ 1 ∧ (n1.toNat) < l12.length)) <|
   let y8 := t83 n1 n2 n3 n4 n5 n6 n7 n8 y4 n10 l11 (stR l12 (n1.toNat) 0 [.i .i64 (w64 ((asI (resC y7 0 0)) + (1 : Int)))]) y6
   chk (okR zr83 zo83 y8) <|
   some ([.agg [.i .i64 (asI (resC y8 0 0)), .i .i64 (asI (resC y8 0 1)), .i .i64 (asI (resC y8 0 2)), .i .i64 (asI (resC y8 0 3)), .i .i64 (asI (resC y8 0 4)), .i .i64 (asI (resC y8 0 5)), .i .i64 (asI (resC y8 0 6)), .i .i64 (asI (resC y8 0 7)), .l (asL (resC y8 0 8)), .i .i64 (asI (resC y8 0 9)), .l (asL (resC y8 0 10)), .l (asL (resC y8 0 11)), .l (asL (resC y8 0 12))]], [])
  else
   let y9 := t42 n1 n2 n3 n4 n5 n6 n7 n8 l9 n10 l11 l12 l13
   chk (okR zr42 zo42 y9) <|
   chk (decide (0 ≤ n1) && decide (n1 < l13.length)) <|
   chk (decide (1 ≤ 1 ∧ (n1.toNat) < l13.length)) <|
   let y10 := stR l13 (n1.toNat) 0 [.i .i64 (asI (resC y9 0 0))]
   let y11 := t42 n1 n2 n3 n4 n5 n6 n7 n8 l9 n10 l11 l12 y10
   chk (okR zr42 zo42 y11) <|
   chk (decide (0 ≤ n1) && decide (n1 < l12.length)) <|
   chk (decide (1 ≤ 1 ∧ (n1.toNat) < l12.length)) <|
   let y12 := t83 n1 n2 n3 n4 n5 n6 n7 n8 l9 n10 l11 (stR l12 (n1.toNat) 0 [.i .i64 (w64 ((asI (resC y11 0 0)) + (1 : Int)))]) y10
   chk (okR zr83 zo83 y12) <|
   some ([.agg [.i .i64 (asI (resC y12 0 0)), .i .i64 (asI (resC y12 0 1)), .i .i64 (asI (resC y12 0 2)), .i .i64 (asI (resC y12 0 3)), .i .i64 (asI (resC y12 0 4)), .i .i64 (asI (resC y12 0 5)), .i .i64 (asI (resC y12 0 6)), .i .i64 (asI (resC y12 0 7)), .l (asL (resC y12 0 8)), .i .i64 (asI (resC y12 0 9)), .l (asL (resC y12 0 10)), .l (asL (resC y12 0 11)), .l (asL (resC y12 0 12))]], [])
def zr69 : List DV := [.agg [.i .i64 0, .i .i64 0, .i .i64 0, .i .i64 0, .i .i64 0, .i .i64 0, .i .i64 0, .i .i64 0, .l [], .i .i64 0, .l [], .l [], .l []]]
def zo69 : List (List D) := []
def A69 : List TA := [.agg [.i .i64, .i .i64, .i .i64, .i .i64, .i .i64, .i .i64, .i .i64, .i .i64, .l, .i .i64, .l, .l, .l], .one (.s)]
def v69 (vs : List Vr) : Rs := t69 (vI vs 0) (vI vs 1) (vI vs 2) (vI vs 3) (vI vs 4) (vI vs 5) (vI vs 6) (vI vs 7) (vL vs 8) (vI vs 9) (vL vs 10) (vL vs 11) (vL vs 12) (vS vs 13)
def g69 (xs : List DV) : Bool × List DV × List (List D) := gOf zr69 zo69 (argsT A69 v69 xs)
def l80o1 (n64 : Int) (n65 : Int) (n66 : Int) (n67 : Int) (n68 : Int) (n69 : Int) (n70 : Int) (n71 : Int) (l72 : List (List D)) (n73 : Int) (l74 : List (List D)) (l75 : List (List D)) (l76 : List (List D)) (n77 : Int) (n78 : Int) (b80 : Bool) (n82 : Int) (n83 : Int) (n84 : Int) (n85 : Int) (n86 : Int) (n87 : Int) (n88 : Int) (n89 : Int) (l90 : List (List D)) (n91 : Int) (l92 : List (List D)) (l93 : List (List D)) (l94 : List (List D)) (n95 : Int) (n96 : Int) (n97 : Int) (n98 : Int) (n99 : Int) (n100 : Int) (n101 : Int) (b102 : Bool) (s103 : ByteArray) (n104 : Int) (n105 : Int) (n106 : Int) (n107 : Int) (n108 : Int) (n109 : Int) (n110 : Int) (b111 : Bool) (s112 : ByteArray) (q1 : Int → Bool → List (List D) → Rs) : Nat → Int → SV → List (List D) → Rs
  | 0, _, _, _ => none
  | m + 1, n79, v81, l113 =>
    let y1 := t42 n82 n83 n84 n85 n86 n87 n88 n89 l90 n91 l92 l93 l94
    chk (okR zr42 zo42 y1) <|
    let y2 := (decide (n79 ≤ (asI (resC y1 0 0)))) && (decide (n79 < (w64 (n78 + (4 : Int)))))
    if y2 then
     let y3 := w64 ((w64 (n79 - n88)) - (1 : Int))
     let y4 := l90.getD y3.toNat []
     chk (decide (0 ≤ y3) && decide (y3 < l90.length) && isRow z92 y4) <|
     let y5 := ([[.i .i64 (asI (nthD y4 0)), .s (asS (nthD y4 1))]] : List (List D))
     chk ((flatR 2 y5) && decide (l113.length + y5.length ≤ lim)) <|
     l80o1 n64 n65 n66 n67 n68 n69 n70 n71 l72 n73 l74 l75 l76 n77 n78 b80 n82 n83 n84 n85 n86 n87 n88 n89 l90 n91 l92 l93 l94 n95 n96 n97 n98 n99 n100 n101 b102 s103 n104 n105 n106 n107 n108 n109 n110 b111 s112 q1 m (w64 (n79 + (1 : Int))) (.d (.b y2)) (l113 ++ y5)
    else
     q1 n79 y2 l113
/-- spec.l13To -/
def t80 (n1 : Int) (n2 : Int) (n3 : Int) (n4 : Int) (n5 : Int) (n6 : Int) (n7 : Int) (n8 : Int) (l9 : List (List D)) (n10 : Int) (l11 : List (List D)) (l12 : List (List D)) (l13 : List (List D)) (n14 : Int) : Rs :=
  let y1 := l12.getD n14.toNat []
  chk (decide (0 ≤ n14) && decide (n14 < l12.length) && isRow z3 y1) <|
  let y2 := asI (nthD y1 0)
  let y3 := decide (y2 ≤ n7)
  if y3 then
   some ([.agg [.i .i64 (5 : Int), .i .i64 n1, .i .i64 n14, .i .i64 n3, .i .i64 n7, .i .i64 n8, .i .i64 (0 : Int), .b false, .l ([] : List (List D)), .s (⟨#[]⟩ : ByteArray)]], [])
  else
   let y4 := t62 n1 n2 n3 n4 n5 n6 n7 n8 l9 n10 l11 l12 l13 (w64 (y2 - (1 : Int)))
   chk (okR zr62 zo62 y4) <|
   let y5 := w64 (y2 - (1 : Int))
   let y6 := asI (resC y4 0 0)
   l80o1 n1 n2 n3 n4 n5 n6 n7 n8 l9 n10 l11 l12 l13 n14 y2 y3 n1 n2 n3 n4 n5 n6 n7 n8 l9 n10 l11 l12 l13 (0 : Int) (0 : Int) (0 : Int) (0 : Int) (0 : Int) (0 : Int) (0 : Int) false (⟨#[]⟩ : ByteArray) (3 : Int) n1 n14 n3 y5 y6 n10 false (⟨#[]⟩ : ByteArray)
    (fun (n167 : Int) (b168 : Bool) (l169 : List (List D)) =>
     some ([.agg [.i .i64 (3 : Int), .i .i64 n1, .i .i64 n14, .i .i64 n3, .i .i64 y5, .i .i64 y6, .i .i64 n10, .b false, .l l169, .s (⟨#[]⟩ : ByteArray)]], [])) KK y2 SV.undef ([] : List (List D))
def zr80 : List DV := [.agg [.i .i64 0, .i .i64 0, .i .i64 0, .i .i64 0, .i .i64 0, .i .i64 0, .i .i64 0, .b false, .l [], .s ⟨#[]⟩]]
def zo80 : List (List D) := []
def A80 : List TA := [.agg [.i .i64, .i .i64, .i .i64, .i .i64, .i .i64, .i .i64, .i .i64, .i .i64, .l, .i .i64, .l, .l, .l], .one (.i .i64)]
def v80 (vs : List Vr) : Rs := t80 (vI vs 0) (vI vs 1) (vI vs 2) (vI vs 3) (vI vs 4) (vI vs 5) (vI vs 6) (vI vs 7) (vL vs 8) (vI vs 9) (vL vs 10) (vL vs 11) (vL vs 12) (vI vs 13)
def g80 (xs : List DV) : Bool × List DV × List (List D) := gOf zr80 zo80 (argsT A80 v80 xs)
def l65o0 (n43 : Int) (n44 : Int) (n45 : Int) (n46 : Int) (n47 : Int) (n48 : Int) (n49 : Int) (n50 : Int) (l51 : List (List D)) (n52 : Int) (l53 : List (List D)) (l54 : List (List D)) (l55 : List (List D)) (n59 : Int) (n60 : Int) (n61 : Int) (n62 : Int) (n63 : Int) (n64 : Int) (n65 : Int) (n66 : Int) (l67 : List (List D)) (n68 : Int) (l69 : List (List D)) (l70 : List (List D)) (l71 : List (List D)) (q1 : Int → Bool → SV → List (List D) → Rs) : Nat → Int → SV → SV → List (List D) → Rs
  | 0, _, _, _, _ => none
  | m + 1, n56, v57, v58, l72 =>
    let y1 := decide (n56 < n60)
    if y1 then
     let k1 := fun (l73 : List (List D)) =>
      l65o0 n43 n44 n45 n46 n47 n48 n49 n50 l51 n52 l53 l54 l55 n59 n60 n61 n62 n63 n64 n65 n66 l67 n68 l69 l70 l71 q1 m (w64 (n56 + (1 : Int))) (.d (.b y1)) (.d (.b (n56 != n59))) l73
     if n56 != n59 then
      let y2 := t80 n59 n60 n61 n62 n63 n64 n65 n66 l67 n68 l69 l70 l71 n56
      chk (okR zr80 zo80 y2) <|
      let y3 := ([[.i .i64 (asI (resC y2 0 0)), .i .i64 (asI (resC y2 0 1)), .i .i64 (asI (resC y2 0 2)), .i .i64 (asI (resC y2 0 3)), .i .i64 (asI (resC y2 0 4)), .i .i64 (asI (resC y2 0 5)), .i .i64 (asI (resC y2 0 6)), .b (asB (resC y2 0 7)), .l (asL (resC y2 0 8)), .s (asS (resC y2 0 9))]] : List (List D))
      chk (true && decide (l72.length + y3.length ≤ lim)) <|
      k1 (l72 ++ y3)
     else
      k1 l72
    else
     q1 n56 y1 (keepV [64, 320] v58) l72
/-- spec.l13ToAll -/
def t65 (n1 : Int) (n2 : Int) (n3 : Int) (n4 : Int) (n5 : Int) (n6 : Int) (n7 : Int) (n8 : Int) (l9 : List (List D)) (n10 : Int) (l11 : List (List D)) (l12 : List (List D)) (l13 : List (List D)) : Rs :=
  l65o0 n1 n2 n3 n4 n5 n6 n7 n8 l9 n10 l11 l12 l13 n1 n2 n3 n4 n5 n6 n7 n8 l9 n10 l11 l12 l13
   (fun (n108 : Int) (b109 : Bool) (v110 : SV) (l111 : List (List D)) =>
    some ([.one (.l l111)], [])) KK (0 : Int) SV.undef SV.undef ([] : List (List D))
def zr65 : List DV := [.one (.l [])]
def zo65 : List (List D) := []
def A65 : List TA := [.agg [.i .i64, .i .i64, .i .i64, .i .i64, .i .i64, .i .i64, .i .i64, .i .i64, .l, .i .i64, .l, .l, .l]]
def v65 (vs : List Vr) : Rs := t65 (vI vs 0) (vI vs 1) (vI vs 2) (vI vs 3) (vI vs 4) (vI vs 5) (vI vs 6) (vI vs 7) (vL vs 8) (vI vs 9) (vL vs 10) (vL vs 11) (vL vs 12)
def g65 (xs : List DV) : Bool × List DV × List (List D) := gOf zr65 zo65 (argsT A65 v65 xs)
def l71o0 (n49 : Int) (n50 : Int) (n51 : Int) (n52 : Int) (n53 : Int) (n54 : Int) (n55 : Int) (n56 : Int) (n57 : Int) (n60 : Int) (n61 : Int) (n62 : Int) (n63 : Int) (n64 : Int) (n65 : Int) (n66 : Int) (n67 : Int) (n68 : Int) (n69 : Int) (n70 : Int) (n71 : Int) (n72 : Int) (n73 : Int) (n74 : Int) (n75 : Int) (n76 : Int) (n77 : Int) (l78 : List (List D)) (l81 : List (List D)) (l82 : List (List D)) (l83 : List (List D)) (l84 : List (List D)) (q1 : Int → Bool → List (List D) → List (List D) → Rs) : Nat → Int → SV → List (List D) → List (List D) → Rs
  | 0, _, _, _, _ => none
  | m + 1, n58, v59, l79, l80 =>
    let y1 := decide (n58 < n61)
    if y1 then
     let y2 := t42 n60 n61 n62 n63 n64 n65 n66 n67 l81 n68 l78 l79 l80
     chk (okR zr42 zo42 y2) <|
     let y3 := ([[.i .i64 (w64 ((asI (resC y2 0 0)) + (1 : Int)))]] : List (List D))
     chk ((flatR 1 y3) && decide (l79.length + y3.length ≤ lim)) <|
     let y4 := ([[.i .i64 (0 : Int)]] : List (List D))
     chk ((flatR 1 y4) && decide (l80.length + y4.length ≤ lim)) <|
     l71o0 n49 n50 n51 n52 n53 n54 n55 n56 n57 n60 n61 n62 n63 n64 n65 n66 n67 n68 n69 n70 n71 n72 n73 n74 n75 n76 n77 l78 l81 l82 l83 l84 q1 m (w64 (n58 + (1 : Int))) (.d (.b y1)) (l79 ++ y3) (l80 ++ y4)
    else
     q1 n58 y1 l79 l80
/-- spec.l13Lead -/
def t71 (n1 : Int) (n2 : Int) (n3 : Int) (n4 : Int) (n5 : Int) (n6 : Int) (n7 : Int) (n8 : Int) (l9 : List (List D)) (n10 : Int) (l11 : List (List D)) (l12 : List (List D)) (l13 : List (List D)) : Rs :=
  l71o0 n1 n2 n3 n4 n5 n6 n7 n8 n10 n1 n2 n3 n4 (3 : Int) n1 n7 n8 n10 (0 : Int) (0 : Int) (0 : Int) (0 : Int) (0 : Int) (0 : Int) (0 : Int) (0 : Int) (0 : Int) ([] : List (List D)) l9 l11 l12 l13
   (fun (n125 : Int) (b126 : Bool) (l127 : List (List D)) (l128 : List (List D)) =>
    let y1 := t69 n1 n2 n3 n4 (3 : Int) n1 n7 n8 l9 n10 ([] : List (List D)) l127 l128 (⟨#[]⟩ : ByteArray)
    chk (okR zr69 zo69 y1) <|
    let y2 := asI (resC y1 0 0)
    let y3 := asI (resC y1 0 1)
    let y4 := asI (resC y1 0 2)
    let y5 := asI (resC y1 0 3)
    let y6 := asI (resC y1 0 4)
    let y7 := asI (resC y1 0 5)
    let y8 := asI (resC y1 0 6)
    let y9 := asI (resC y1 0 7)
    let y10 := asL (resC y1 0 8)
    let y11 := asI (resC y1 0 9)
    let y12 := asL (resC y1 0 10)
    let y13 := asL (resC y1 0 11)
    let y14 := asL (resC y1 0 12)
    let y15 := t65 y2 y3 y4 y5 y6 y7 y8 y9 y10 y11 y12 y13 y14
    chk (okR zr65 zo65 y15) <|
    some ([.agg [.i .i64 y2, .i .i64 y3, .i .i64 y4, .i .i64 y5, .i .i64 y6, .i .i64 y7, .i .i64 y8, .i .i64 y9, .l y10, .i .i64 y11, .l y12, .l y13, .l y14], .one (.l (asL (resC y15 0 0)))], [])) KK (0 : Int) SV.undef ([] : List (List D)) ([] : List (List D))
def zr71 : List DV := [.agg [.i .i64 0, .i .i64 0, .i .i64 0, .i .i64 0, .i .i64 0, .i .i64 0, .i .i64 0, .i .i64 0, .l [], .i .i64 0, .l [], .l [], .l []], .one (.l [])]
def zo71 : List (List D) := []
def A71 : List TA := [.agg [.i .i64, .i .i64, .i .i64, .i .i64, .i .i64, .i .i64, .i .i64, .i .i64, .l, .i .i64, .l, .l, .l]]
def v71 (vs : List Vr) : Rs := t71 (vI vs 0) (vI vs 1) (vI vs 2) (vI vs 3) (vI vs 4) (vI vs 5) (vI vs 6) (vI vs 7) (vL vs 8) (vI vs 9) (vL vs 10) (vL vs 11) (vL vs 12)
def g71 (xs : List DV) : Bool × List DV × List (List D) := gOf zr71 zo71 (argsT A71 v71 xs)
def l35o3 (n56 : Int) (n57 : Int) (n58 : Int) (n59 : Int) (n60 : Int) (n61 : Int) (n62 : Int) (n63 : Int) (l64 : List (List D)) (n65 : Int) (l66 : List (List D)) (l67 : List (List D)) (l68 : List (List D)) (b70 : Bool) (b71 : Bool) (b72 : Bool) (n75 : Int) (n76 : Int) (n77 : Int) (n78 : Int) (n79 : Int) (n80 : Int) (n81 : Int) (n82 : Int) (n83 : Int) (n84 : Int) (n85 : Int) (n86 : Int) (n87 : Int) (n88 : Int) (n89 : Int) (n90 : Int) (n91 : Int) (n92 : Int) (l94 : List (List D)) (l95 : List (List D)) (l96 : List (List D)) (l97 : List (List D)) (l98 : List (List D)) (q1 : Int → Bool → SV → List (List D) → Rs) : Nat → Int → SV → SV → List (List D) → Rs
  | 0, _, _, _, _ => none
  | m + 1, n69, v73, v74, l93 =>
    let y1 := decide (n69 < n76)
    if y1 then
     let k1 := fun (l99 : List (List D)) =>
      l35o3 n56 n57 n58 n59 n60 n61 n62 n63 l64 n65 l66 l67 l68 b70 b71 b72 n75 n76 n77 n78 n79 n80 n81 n82 n83 n84 n85 n86 n87 n88 n89 n90 n91 n92 l94 l95 l96 l97 l98 q1 m (w64 (n69 + (1 : Int))) (.d (.b y1)) (.d (.b (n69 != n75))) l99
     if n69 != n75 then
      let y2 := t42 n75 n76 n77 n78 n79 n80 n81 n82 l95 n83 l94 l97 l98
      chk (okR zr42 zo42 y2) <|
      let y3 := t42 n75 n76 n77 n78 n79 n80 n81 n82 l95 n83 l94 l97 l98
      chk (okR zr42 zo42 y3) <|
      let y4 := t62 n75 n76 n77 n78 n79 n80 n81 n82 l95 n83 l94 l97 l98 (asI (resC y3 0 0))
      chk (okR zr62 zo62 y4) <|
      let y5 := ([[.i .i64 (1 : Int), .i .i64 n75, .i .i64 n69, .i .i64 n77, .i .i64 (asI (resC y2 0 0)), .i .i64 (asI (resC y4 0 0)), .i .i64 (0 : Int), .b false, .l ([] : List (List D)), .s (⟨#[]⟩ : ByteArray)]] : List (List D))
      chk (true && decide (l93.length + y5.length ≤ lim)) <|
      k1 (l93 ++ y5)
     else
      k1 l93
    else
     q1 n69 y1 (keepV [64, 128, 512, 2368, 4105, 4107, 4108, 4109] v74) l93
/-- spec.Elect -/
def t35 (n1 : Int) (n2 : Int) (n3 : Int) (n4 : Int) (n5 : Int) (n6 : Int) (n7 : Int) (n8 : Int) (l9 : List (List D)) (n10 : Int) (l11 : List (List D)) (l12 : List (List D)) (l13 : List (List D)) : Rs :=
  let y1 := t11 n1 n2 n3 n4 n5 n6 n7 n8 l9 n10 l11 l12 l13
  chk (okR zr11 zo11 y1) <|
  let y2 := !(asB (resC y1 0 0))
  if y2 then
   some ([.agg [.i .i64 (0 : Int), .i .i64 (0 : Int), .i .i64 (0 : Int), .i .i64 (0 : Int), .i .i64 (0 : Int), .i .i64 (0 : Int), .i .i64 (0 : Int), .i .i64 (0 : Int), .l ([] : List (List D)), .i .i64 (0 : Int), .l ([] : List (List D)), .l ([] : List (List D)), .l ([] : List (List D))], .one (.l ([] : List (List D)))], [])
  else
   let y3 := t61 n1 n2 n3 n4 n5 n6 n7 n8 l9 n10 l11 l12 l13
   chk (okR zr61 zo61 y3) <|
   let y4 := asI (resC y3 0 4)
   let y5 := asI (resC y3 0 2)
   let y6 := (y4 == (3 : Int)) || (decide (y5 ≥ (100000 : Int)))
   if y6 then
    let y7 := asI (resC y3 0 0)
    let y8 := asI (resC y3 0 1)
    let y9 := asI (resC y3 0 6)
    let y10 := asI (resC y3 0 7)
    let y11 := asL (resC y3 0 8)
    let y12 := asI (resC y3 0 9)
    let y13 := asL (resC y3 0 10)
    let y14 := asL (resC y3 0 11)
    let y15 := asL (resC y3 0 12)
    some ([.agg [.i .i64 y7, .i .i64 y8, .i .i64 y5, .i .i64 (asI (resC y3 0 3)), .i .i64 y4, .i .i64 (asI (resC y3 0 5)), .i .i64 y9, .i .i64 y10, .l y11, .i .i64 y12, .l y13, .l y14, .l y15], .one (.l ([] : List (List D)))], [])
   else
    let y16 := asI (resC y3 0 0)
    let y17 := ([[.i .i64 y16]] : List (List D))
    let y18 := asI (resC y3 0 1)
    let y19 := decide ((w64 ((2 : Int) * (y17.length : Int))) > y18)
    if y19 then
     let y20 := w64 (y5 + (1 : Int))
     let y21 := asI (resC y3 0 6)
     let y22 := asI (resC y3 0 7)
     let y23 := asL (resC y3 0 8)
     let y24 := asI (resC y3 0 9)
     let y25 := asL (resC y3 0 11)
     let y26 := asL (resC y3 0 12)
     let y27 := t71 y16 y18 y20 y16 (2 : Int) (-1 : Int) y21 y22 y23 y24 y17 y25 y26
     chk (okR zr71 zo71 y27) <|
     some ([.agg [.i .i64 (asI (resC y27 0 0)), .i .i64 (asI (resC y27 0 1)), .i .i64 (asI (resC y27 0 2)), .i .i64 (asI (resC y27 0 3)), .i .i64 (asI (resC y27 0 4)), .i .i64 (asI (resC y27 0 5)), .i .i64 (asI (resC y27 0 6)), .i .i64 (asI (resC y27 0 7)), .l (asL (resC y27 0 8)), .i .i64 (asI (resC y27 0 9)), .l (asL (resC y27 0 10)), .l (asL (resC y27 0 11)), .l (asL (resC y27 0 12))], .one (.l (asL (resC y27 1 0)))], [])
    else
     let y28 := w64 (y5 + (1 : Int))
     let y29 := asI (resC y3 0 6)
     let y30 := asI (resC y3 0 7)
     let y31 := asI (resC y3 0 9)
     let y32 := asL (resC y3 0 8)
     let y33 := asL (resC y3 0 10)
     let y34 := asL (resC y3 0 11)
     let y35 := asL (resC y3 0 12)
     l35o3 n1 n2 n3 n4 n5 n6 n7 n8 l9 n10 l11 l12 l13 y2 y6 y19 y16 y18 y28 y16 (2 : Int) (-1 : Int) y29 y30 y31 (0 : Int) (0 : Int) (0 : Int) (0 : Int) (0 : Int) (0 : Int) (0 : Int) (0 : Int) (0 : Int) y17 y32 y33 y34 y35
      (fun (n147 : Int) (b148 : Bool) (v149 : SV) (l150 : List (List D)) =>
       some ([.agg [.i .i64 y16, .i .i64 y18, .i .i64 y28, .i .i64 y16, .i .i64 (2 : Int), .i .i64 (-1 : Int), .i .i64 y29, .i .i64 y30, .l y32, .i .i64 y31, .l y17, .l y34, .l y35], .one (.l l150)], [])) KK (0 : Int) SV.undef SV.undef ([] : List (List D))
def zr35 : List DV := [.agg [.i .i64 0, .i .i64 0, .i .i64 0, .i .i64 0, .i .i64 0, .i .i64 0, .i .i64 0, .i .i64 0, .l [], .i .i64 0, .l [], .l [], .l []], .one (.l [])]
def zo35 : List (List D) := []
def A35 : List TA := [.agg [.i .i64, .i .i64, .i .i64, .i .i64, .i .i64, .i .i64, .i .i64, .i .i64, .l, .i .i64, .l, .l, .l]]
def v35 (vs : List Vr) : Rs := t35 (vI vs 0) (vI vs 1) (vI vs 2) (vI vs 3) (vI vs 4) (vI vs 5) (vI vs 6) (vI vs 7) (vL vs 8) (vI vs 9) (vL vs 10) (vL vs 11) (vL vs 12)
def g35 (xs : List DV) : Bool × List DV × List (List D) := gOf zr35 zo35 (argsT A35 v35 xs)
/-- impl.within -/
def t46 (n1 : Int) (n2 : Int) (n3 : Int) : Rs :=
  some ([.one (.b ((decide (n1 ≥ n2)) && (decide (n1 ≤ n3))))], [])
def zr46 : List DV := [.one (.b false)]
def zo46 : List (List D) := []
def A46 : List TA := [.one (.i .i64), .one (.i .i64), .one (.i .i64)]
def v46 (vs : List Vr) : Rs := t46 (vI vs 0) (vI vs 1) (vI vs 2)
def g46 (xs : List DV) : Bool × List DV × List (List D) := gOf zr46 zo46 (argsT A46 v46 xs)
/-- (*impl.Core).kept -/
def t48 (n1 : Int) (n2 : Int) (n3 : Int) (n4 : Int) (n5 : Int) (n6 : Int) (n7 : Int) (n8 : Int) (l9 : List (List D)) (n10 : Int) (l11 : List (List D)) (l12 : List (List D)) (l13 : List (List D)) (s14 : ByteArray) : Rs :=
  chk ((flatR 2 l9) && decide (l9.length ≤ lim)) <|
  let k1 := fun (n15 : Int) (n16 : Int) (s17 : ByteArray) =>
   some ([.agg [.i .i64 n3, .i .i64 n4, .i .i64 n15, .i .i64 n16, .s s17, .l l9]], [])
  if n7 != (0 : Int) then
   k1 n7 n8 s14
  else
   k1 (0 : Int) (0 : Int) (⟨#[]⟩ : ByteArray)
def zr48 : List DV := [.agg [.i .i64 0, .i .i64 0, .i .i64 0, .i .i64 0, .s ⟨#[]⟩, .l []]]
def zo48 : List (List D) := []
def A48 : List TA := [.ptr [.i .i64, .i .i64, .i .i64, .i .i64, .i .i64, .i .i64, .i .i64, .i .i64, .l, .i .i64, .l, .l, .l], .one (.s)]
def v48 (vs : List Vr) : Rs := t48 (vI vs 0) (vI vs 1) (vI vs 2) (vI vs 3) (vI vs 4) (vI vs 5) (vI vs 6) (vI vs 7) (vL vs 8) (vI vs 9) (vL vs 10) (vL vs 11) (vL vs 12) (vS vs 13)
def g48 (xs : List DV) : Bool × List DV × List (List D) := gOf zr48 zo48 (argsT A48 v48 xs)
def l47o2 (n26 : Int) (n27 : Int) (n28 : Int) (n29 : Int) (s30 : ByteArray) (l31 : List (List D)) (b32 : Bool) (b34 : Bool) (b35 : Bool) (l36 : List (List D)) (n37 : Int) (n41 : Int) (n42 : Int) (n43 : Int) (n44 : Int) (s45 : ByteArray) (l46 : List (List D)) (q1 : Int → Int → Bool → Bool → Int → ByteArray → Rs) (q2 : Int → Int → Bool → SV → Rs) : Nat → Int → Int → SV → SV → Rs
  | 0, _, _, _, _ => none
  | m + 1, n33, n38, v39, v40 =>
    let y1 := decide (n38 < n37)
    if y1 then
     let y2 := l36.getD n38.toNat []
     chk (decide (0 ≤ n38) && decide (n38 < l36.length) && isRow z92 y2) <|
     let y3 := asI (nthD y2 0)
     let y4 := t46 y3 n33 n41
     let y5 := asS (nthD y2 1)
     let y6 := decide ((y5.size : Int) > (1600 : Int))
     chk ((okR zr46 zo46 y4) || !(!y6)) <|
     let y7 := y6 || (!(asB (resC y4 0 0)))
     if y7 then
      q1 n33 n38 y1 y7 y3 y5
     else
      l47o2 n26 n27 n28 n29 s30 l31 b32 b34 b35 l36 n37 n41 n42 n43 n44 s45 l46 q1 q2 m y3 (w64 (n38 + (1 : Int))) (.d (.b y1)) (.d (.b y7))
    else
     q2 n33 n38 y1 (keepV [64] v40)
/-- impl.KeptOk -/
def t47 (n1 : Int) (n2 : Int) (n3 : Int) (n4 : Int) (s5 : ByteArray) (l6 : List (List D)) : Rs :=
  let y1 := t46 n1 (0 : Int) (100000 : Int)
  chk (okR zr46 zo46 y1) <|
  let y2 := t46 n2 (-1 : Int) (4 : Int)
  let y3 := !(asB (resC y1 0 0))
  chk ((okR zr46 zo46 y2) || !(!y3)) <|
  let y4 := (y3 || (!(asB (resC y2 0 0)))) || (decide ((l6.length : Int) > (60 : Int)))
  if y4 then
   some ([.one (.b false)], [])
  else
   let y5 := t46 n3 (1 : Int) (100000 : Int)
   let y6 := !((n3 == (0 : Int)) && ((n4 == (0 : Int)) && ((s5.toList == (⟨#[]⟩ : ByteArray).toList) && true)))
   chk ((okR zr46 zo46 y5) || !y6) <|
   let y7 := t46 n4 (1 : Int) n1
   let y8 := !(asB (resC y5 0 0))
   chk ((okR zr46 zo46 y7) || !(y6 && (!y8))) <|
   let y9 := y6 && ((y8 || (!(asB (resC y7 0 0)))) || (decide ((s5.size : Int) > (20000 : Int))))
   if y9 then
    some ([.one (.b false)], [])
   else
    l47o2 n1 n2 n3 n4 s5 l6 false y4 y9 l6 (l6.length : Int) n1 n2 n3 n4 s5 l6
     (fun (n78 : Int) (n79 : Int) (b80 : Bool) (b81 : Bool) (n82 : Int) (s83 : ByteArray) =>
      some ([.one (.b false)], []))
     (fun (n84 : Int) (n85 : Int) (b86 : Bool) (v87 : SV) =>
      some ([.one (.b (decide ((w64 (n3 + (l6.length : Int))) ≤ (100000 : Int))))], [])) KK (if n4 > (1 : Int) then n4 else (1 : Int)) (0 : Int) SV.undef SV.undef
def zr47 : List DV := [.one (.b false)]
def zo47 : List (List D) := []
def A47 : List TA := [.agg [.i .i64, .i .i64, .i .i64, .i .i64, .s, .l]]
def v47 (vs : List Vr) : Rs := t47 (vI vs 0) (vI vs 1) (vI vs 2) (vI vs 3) (vS vs 4) (vL vs 5)
def g47 (xs : List DV) : Bool × List DV × List (List D) := gOf zr47 zo47 (argsT A47 v47 xs)
/-- (*impl.Core).last -/
def t49 (n1 : Int) (n2 : Int) (n3 : Int) (n4 : Int) (n5 : Int) (n6 : Int) (n7 : Int) (n8 : Int) (l9 : List (List D)) (n10 : Int) (l11 : List (List D)) (l12 : List (List D)) (l13 : List (List D)) : Rs :=
  some ([.one (.i .i64 (w64 (n7 + (l9.length : Int))))], [])
def zr49 : List DV := [.one (.i .i64 0)]
def zo49 : List (List D) := []
def A49 : List TA := [.ptr [.i .i64, .i .i64, .i .i64, .i .i64, .i .i64, .i .i64, .i .i64, .i .i64, .l, .i .i64, .l, .l, .l]]
def v49 (vs : List Vr) : Rs := t49 (vI vs 0) (vI vs 1) (vI vs 2) (vI vs 3) (vI vs 4) (vI vs 5) (vI vs 6) (vI vs 7) (vL vs 8) (vI vs 9) (vL vs 10) (vL vs 11) (vL vs 12)
def g49 (xs : List DV) : Bool × List DV × List (List D) := gOf zr49 zo49 (argsT A49 v49 xs)
def l88o0 (l8 : List (List D)) (n9 : Int) (n10 : Int) (n12 : Int) (q1 : Int → Bool → Bool → Rs) (q2 : SV → Int → Bool → SV → Rs) : Nat → SV → Int → SV → SV → Rs
  | 0, _, _, _, _ => none
  | m + 1, v11, n13, v14, v15 =>
    let y1 := decide (n13 < n12)
    if y1 then
     let y2 := l8.getD n13.toNat []
     chk (decide (0 ≤ n13) && decide (n13 < l8.length) && isRow z3 y2) <|
     let y3 := n9 == (asI (nthD y2 0))
     if y3 then
      q1 n13 y1 y3
     else
      l88o0 l8 n9 n10 n12 q1 q2 m (.d (.i .i64 n13)) (w64 (n13 + (1 : Int))) (.d (.b y1)) (.d (.b y3))
    else
     q2 (keepV [] v11) n13 y1 (keepV [] v15)
/-- slices.Index[[]int,int] -/
def t88 (l1 : List (List D)) (n2 : Int) : Rs :=
  l88o0 l1 n2 (0 : Int) (l1.length : Int)
   (fun (n31 : Int) (b32 : Bool) (b33 : Bool) =>
    some ([.one (.i .i64 n31)], []))
   (fun (v34 : SV) (n35 : Int) (b36 : Bool) (v37 : SV) =>
    some ([.one (.i .i64 (-1 : Int))], [])) KK SV.undef (0 : Int) SV.undef SV.undef
def zr88 : List DV := [.one (.i .i64 0)]
def zo88 : List (List D) := []
def A88 : List TA := [.one (.l), .one (.i .i64)]
def v88 (vs : List Vr) : Rs := t88 (vL vs 0) (vI vs 1)
def g88 (xs : List DV) : Bool × List DV × List (List D) := gOf zr88 zo88 (argsT A88 v88 xs)
/-- slices.Contains[[]int,int] -/
def t76 (l1 : List (List D)) (n2 : Int) : Rs :=
  chk (okR zr88 zo88 (t88 l1 n2)) <|
  some ([.one (.b (decide ((asI (resC (t88 l1 n2) 0 0)) ≥ (0 : Int))))], [])
def zr76 : List DV := [.one (.b false)]
def zo76 : List (List D) := []
def A76 : List TA := [.one (.l), .one (.i .i64)]
def v76 (vs : List Vr) : Rs := t76 (vL vs 0) (vI vs 1)
def g76 (xs : List DV) : Bool × List DV × List (List D) := gOf zr76 zo76 (argsT A76 v76 xs)
/-- (*impl.Core).isMost -/
def t77 (n1 : Int) (n2 : Int) (n3 : Int) (n4 : Int) (n5 : Int) (n6 : Int) (n7 : Int) (n8 : Int) (l9 : List (List D)) (n10 : Int) (l11 : List (List D)) (l12 : List (List D)) (l13 : List (List D)) (n14 : Int) : Rs :=
  some ([.one (.b (decide ((w64 ((2 : Int) * n14)) > n2)))], [])
def zr77 : List DV := [.one (.b false)]
def zo77 : List (List D) := []
def A77 : List TA := [.ptr [.i .i64, .i .i64, .i .i64, .i .i64, .i .i64, .i .i64, .i .i64, .i .i64, .l, .i .i64, .l, .l, .l], .one (.i .i64)]
def v77 (vs : List Vr) : Rs := t77 (vI vs 0) (vI vs 1) (vI vs 2) (vI vs 3) (vI vs 4) (vI vs 5) (vI vs 6) (vI vs 7) (vL vs 8) (vI vs 9) (vL vs 10) (vL vs 11) (vL vs 12) (vI vs 13)
def g77 (xs : List DV) : Bool × List DV × List (List D) := gOf zr77 zo77 (argsT A77 v77 xs)
def l50o0 (n31 : Int) (n32 : Int) (n33 : Int) (n34 : Int) (n35 : Int) (n36 : Int) (n37 : Int) (n38 : Int) (l39 : List (List D)) (n40 : Int) (l41 : List (List D)) (l42 : List (List D)) (l43 : List (List D)) (b44 : Bool) (l47 : List (List D)) (n48 : Int) (q1 : Int → Int → Bool → Bool → Rs) (q2 : SV → SV → Int → Bool → SV → Rs) : Nat → SV → SV → Int → SV → SV → Rs
  | 0, _, _, _, _, _ => none
  | m + 1, v45, v46, n49, v50, v51 =>
    let y1 := decide (n49 < n48)
    if y1 then
     let y2 := l47.getD n49.toNat []
     chk (decide (0 ≤ n49) && decide (n49 < l47.length) && isRow z3 y2) <|
     let y3 := asI (nthD y2 0)
     let y4 := t46 y3 (0 : Int) (w64 (n32 - (1 : Int)))
     chk (okR zr46 zo46 y4) <|
     let y5 := w64 (n49 - (1 : Int))
     let y6 := l41.getD y5.toNat []
     let y7 := !(asB (resC y4 0 0))
     let y8 := decide (n49 > (0 : Int))
     chk ((decide (0 ≤ y5) && decide (y5 < l41.length) && isRow z3 y6) || !((!y7) && y8)) <|
     let y9 := y7 || (y8 && (decide ((asI (nthD y6 0)) ≥ y3)))
     if y9 then
      q1 n49 y3 y1 y9
     else
      l50o0 n31 n32 n33 n34 n35 n36 n37 n38 l39 n40 l41 l42 l43 b44 l47 n48 q1 q2 m (.d (.i .i64 n49)) (.d (.i .i64 y3)) (w64 (n49 + (1 : Int))) (.d (.b y1)) (.d (.b y9))
    else
     q2 (keepV [] v45) (keepV [] v46) n49 y1 (keepV [] v51)
/-- (*impl.Core).seekOk -/
def t50 (n1 : Int) (n2 : Int) (n3 : Int) (n4 : Int) (n5 : Int) (n6 : Int) (n7 : Int) (n8 : Int) (l9 : List (List D)) (n10 : Int) (l11 : List (List D)) (l12 : List (List D)) (l13 : List (List D)) : Rs :=
  l50o0 n1 n2 n3 n4 n5 n6 n7 n8 l9 n10 l11 l12 l13 false l11 (l11.length : Int)
   (fun (n82 : Int) (n83 : Int) (b84 : Bool) (b85 : Bool) =>
    some ([.one (.b false)], []))
   (fun (v86 : SV) (v87 : SV) (n88 : Int) (b89 : Bool) (v90 : SV) =>
    let y1 := ((decide (n3 ≥ (1 : Int))) && (n4 == n1)) && (n6 == (-1 : Int))
    chk ((okR zr76 zo76 (t76 l11 n1)) || !y1) <|
    let y2 := t77 n1 n2 n3 n4 n5 n6 n7 n8 l9 n10 l11 l12 l13 (l11.length : Int)
    let y3 := y1 && (asB (resC (t76 l11 n1) 0 0))
    chk ((okR zr77 zo77 y2) || !y3) <|
    some ([.one (.b ((y3 && (!(asB (resC y2 0 0)))) && ((w64 ((l12.length : Int) + (l13.length : Int))) == (0 : Int))))], [])) KK SV.undef SV.undef (0 : Int) SV.undef SV.undef
def zr50 : List DV := [.one (.b false)]
def zo50 : List (List D) := []
def A50 : List TA := [.ptr [.i .i64, .i .i64, .i .i64, .i .i64, .i .i64, .i .i64, .i .i64, .i .i64, .l, .i .i64, .l, .l, .l]]
def v50 (vs : List Vr) : Rs := t50 (vI vs 0) (vI vs 1) (vI vs 2) (vI vs 3) (vI vs 4) (vI vs 5) (vI vs 6) (vI vs 7) (vL vs 8) (vI vs 9) (vL vs 10) (vL vs 11) (vL vs 12)
def g50 (xs : List DV) : Bool × List DV × List (List D) := gOf zr50 zo50 (argsT A50 v50 xs)
def l51o1 (n32 : Int) (n33 : Int) (n34 : Int) (n35 : Int) (n36 : Int) (n37 : Int) (n38 : Int) (n39 : Int) (l40 : List (List D)) (n41 : Int) (l42 : List (List D)) (l43 : List (List D)) (l44 : List (List D)) (b45 : Bool) (b48 : Bool) (l49 : List (List D)) (n50 : Int) (q1 : Int → Int → Bool → Bool → Rs) (q2 : SV → SV → Int → Bool → SV → Rs) : Nat → SV → SV → Int → SV → SV → Rs
  | 0, _, _, _, _, _ => none
  | m + 1, v46, v47, n51, v52, v53 =>
    let y1 := decide (n51 < n50)
    if y1 then
     let y2 := l49.getD n51.toNat []
     chk (decide (0 ≤ n51) && decide (n51 < l49.length) && isRow z3 y2) <|
     let y3 := l43.getD n51.toNat []
     let y4 := asI (nthD y2 0)
     let y5 := decide (y4 < (0 : Int))
     chk ((decide (0 ≤ n51) && decide (n51 < l43.length) && isRow z3 y3) || !(!y5)) <|
     let y6 := l43.getD n51.toNat []
     let y7 := y5 || (decide ((asI (nthD y3 0)) ≤ y4))
     chk ((decide (0 ≤ n51) && decide (n51 < l43.length) && isRow z3 y6) || !(!y7)) <|
     let y8 := t49 n32 n33 n34 n35 n36 n37 n38 n39 l40 n41 l42 l43 l44
     chk ((okR zr49 zo49 y8) || !(!y7)) <|
     let y9 := y7 || (decide ((asI (nthD y6 0)) > (w64 ((asI (resC y8 0 0)) + (1 : Int)))))
     if y9 then
      q1 n51 y4 y1 y9
     else
      l51o1 n32 n33 n34 n35 n36 n37 n38 n39 l40 n41 l42 l43 l44 b45 b48 l49 n50 q1 q2 m (.d (.i .i64 n51)) (.d (.i .i64 y4)) (w64 (n51 + (1 : Int))) (.d (.b y1)) (.d (.b y9))
    else
     q2 (keepV [] v46) (keepV [] v47) n51 y1 (keepV [] v53)
/-- (*impl.Core).leadOk -/
def t51 (n1 : Int) (n2 : Int) (n3 : Int) (n4 : Int) (n5 : Int) (n6 : Int) (n7 : Int) (n8 : Int) (l9 : List (List D)) (n10 : Int) (l11 : List (List D)) (l12 : List (List D)) (l13 : List (List D)) : Rs :=
  let y1 := (((((decide (n3 < (1 : Int))) || (n4 != n1)) || (n6 != n1)) || (decide ((l11.length : Int) > (0 : Int)))) || ((l12.length : Int) != n2)) || ((l13.length : Int) != n2)
  if y1 then
   some ([.one (.b false)], [])
  else
   l51o1 n1 n2 n3 n4 n5 n6 n7 n8 l9 n10 l11 l12 l13 false y1 l13 (l13.length : Int)
    (fun (n85 : Int) (n86 : Int) (b87 : Bool) (b88 : Bool) =>
     some ([.one (.b false)], []))
    (fun (v89 : SV) (v90 : SV) (n91 : Int) (b92 : Bool) (v93 : SV) =>
     let y2 := l13.getD n1.toNat []
     chk (decide (0 ≤ n1) && decide (n1 < l13.length) && isRow z3 y2) <|
     let y3 := t49 n1 n2 n3 n4 n5 n6 n7 n8 l9 n10 l11 l12 l13
     chk (okR zr49 zo49 y3) <|
     some ([.one (.b ((asI (nthD y2 0)) == (asI (resC y3 0 0))))], [])) KK SV.undef SV.undef (0 : Int) SV.undef SV.undef
def zr51 : List DV := [.one (.b false)]
def zo51 : List (List D) := []
def A51 : List TA := [.ptr [.i .i64, .i .i64, .i .i64, .i .i64, .i .i64, .i .i64, .i .i64, .i .i64, .l, .i .i64, .l, .l, .l]]
def v51 (vs : List Vr) : Rs := t51 (vI vs 0) (vI vs 1) (vI vs 2) (vI vs 3) (vI vs 4) (vI vs 5) (vI vs 6) (vI vs 7) (vL vs 8) (vI vs 9) (vL vs 10) (vL vs 11) (vL vs 12)
def g51 (xs : List DV) : Bool × List DV × List (List D) := gOf zr51 zo51 (argsT A51 v51 xs)
/-- impl.CoreOk -/
def t13 (n1 : Int) (n2 : Int) (n3 : Int) (n4 : Int) (n5 : Int) (n6 : Int) (n7 : Int) (n8 : Int) (l9 : List (List D)) (n10 : Int) (l11 : List (List D)) (l12 : List (List D)) (l13 : List (List D)) : Rs :=
  let y1 := t46 n2 (1 : Int) (5 : Int)
  chk (okR zr46 zo46 y1) <|
  let y2 := t46 n1 (0 : Int) (w64 (n2 - (1 : Int)))
  let y3 := !(asB (resC y1 0 0))
  chk ((okR zr46 zo46 y2) || !(!y3)) <|
  let y4 := (((y3 || (!(asB (resC y2 0 0)))) || (decide (n4 ≥ n2))) || (decide (n7 < (0 : Int)))) || ((n7 == (0 : Int)) && (n8 != (0 : Int)))
  if !y4 then
   let y5 := t48 n1 n2 n3 n4 n5 n6 n7 n8 l9 n10 l11 l12 l13 (⟨#[]⟩ : ByteArray)
   chk (okR zr48 zo48 y5) <|
   let y6 := t47 (asI (resC y5 0 0)) (asI (resC y5 0 1)) (asI (resC y5 0 2)) (asI (resC y5 0 3)) (asS (resC y5 0 4)) (asL (resC y5 0 5))
   chk ((okR zr47 zo47 y6) || !(!y4)) <|
   let y7 := t49 n1 n2 n3 n4 n5 n6 n7 n8 l9 n10 l11 l12 l13
   let y8 := y4 || (!(asB (resC y6 0 0)))
   chk ((okR zr49 zo49 y7) || !(!y8)) <|
   let y9 := t46 n10 n7 (asI (resC y7 0 0))
   chk ((okR zr46 zo46 y9) || !(!y8)) <|
   if y8 || (!(asB (resC y9 0 0))) then
    some ([.one (.b false)], [])
   else
    if n5 == (1 : Int) then
     let y10 := t46 n6 (-1 : Int) (w64 (n2 - (1 : Int)))
     chk (okR zr46 zo46 y10) <|
     some ([.one (.b (((asB (resC y10 0 0)) && (n6 != n1)) && ((w64 ((w64 ((l11.length : Int) + (l12.length : Int))) + (l13.length : Int))) == (0 : Int))))], [])
    else
     if n5 == (2 : Int) then
      let y11 := t50 n1 n2 n3 n4 n5 n6 n7 n8 l9 n10 l11 l12 l13
      chk (okR zr50 zo50 y11) <|
      some ([.one (.b (asB (resC y11 0 0)))], [])
     else
      if n5 == (3 : Int) then
       let y12 := t51 n1 n2 n3 n4 n5 n6 n7 n8 l9 n10 l11 l12 l13
       chk (okR zr51 zo51 y12) <|
       some ([.one (.b (asB (resC y12 0 0)))], [])
      else
       some ([.one (.b false)], [])
  else
   if !y4 then
    none
   else
    if !y4 then
     none
    else
     chk (y4) <|
     let y13 := t49 n1 n2 n3 n4 n5 n6 n7 n8 l9 n10 l11 l12 l13
     chk ((okR zr49 zo49 y13) || !false) <|
     chk ((okR zr46 zo46 (t46 n10 n7 (asI (resC y13 0 0)))) || !false) <|
     some ([.one (.b false)], [])
def zr13 : List DV := [.one (.b false)]
def zo13 : List (List D) := []
def A13 : List TA := [.agg [.i .i64, .i .i64, .i .i64, .i .i64, .i .i64, .i .i64, .i .i64, .i .i64, .l, .i .i64, .l, .l, .l]]
def v13 (vs : List Vr) : Rs := t13 (vI vs 0) (vI vs 1) (vI vs 2) (vI vs 3) (vI vs 4) (vI vs 5) (vI vs 6) (vI vs 7) (vL vs 8) (vI vs 9) (vL vs 10) (vL vs 11) (vL vs 12)
def g13 (xs : List DV) : Bool × List DV × List (List D) := gOf zr13 zo13 (argsT A13 v13 xs)
/-- impl.copyInts -/
def t79 (l1 : List (List D)) : Rs :=
  chk ((flatR 1 l1) && decide (l1.length ≤ lim)) <|
  some ([.one (.l l1)], [])
def zr79 : List DV := [.one (.l [])]
def zo79 : List (List D) := []
def A79 : List TA := [.one (.l)]
def v79 (vs : List Vr) : Rs := t79 (vL vs 0)
def g79 (xs : List DV) : Bool × List DV × List (List D) := gOf zr79 zo79 (argsT A79 v79 xs)
/-- impl.copyCore -/
def t63 (n1 : Int) (n2 : Int) (n3 : Int) (n4 : Int) (n5 : Int) (n6 : Int) (n7 : Int) (n8 : Int) (l9 : List (List D)) (n10 : Int) (l11 : List (List D)) (l12 : List (List D)) (l13 : List (List D)) : Rs :=
  chk ((flatR 2 l9) && decide (l9.length ≤ lim)) <|
  chk (okR zr79 zo79 (t79 l11)) <|
  chk (okR zr79 zo79 (t79 l12)) <|
  chk (okR zr79 zo79 (t79 l13)) <|
  some ([.agg [.i .i64 n1, .i .i64 n2, .i .i64 n3, .i .i64 n4, .i .i64 n5, .i .i64 n6, .i .i64 n7, .i .i64 n8, .l l9, .i .i64 n10, .l (asL (resC (t79 l11) 0 0)), .l (asL (resC (t79 l12) 0 0)), .l (asL (resC (t79 l13) 0 0))]], [])
def zr63 : List DV := [.agg [.i .i64 0, .i .i64 0, .i .i64 0, .i .i64 0, .i .i64 0, .i .i64 0, .i .i64 0, .i .i64 0, .l [], .i .i64 0, .l [], .l [], .l []]]
def zo63 : List (List D) := []
def A63 : List TA := [.agg [.i .i64, .i .i64, .i .i64, .i .i64, .i .i64, .i .i64, .i .i64, .i .i64, .l, .i .i64, .l, .l, .l]]
def v63 (vs : List Vr) : Rs := t63 (vI vs 0) (vI vs 1) (vI vs 2) (vI vs 3) (vI vs 4) (vI vs 5) (vI vs 6) (vI vs 7) (vL vs 8) (vI vs 9) (vL vs 10) (vL vs 11) (vL vs 12)
def g63 (xs : List DV) : Bool × List DV × List (List D) := gOf zr63 zo63 (argsT A63 v63 xs)
/-- (*impl.Core).hasRoom -/
def t84 (n1 : Int) (n2 : Int) (n3 : Int) (n4 : Int) (n5 : Int) (n6 : Int) (n7 : Int) (n8 : Int) (l9 : List (List D)) (n10 : Int) (l11 : List (List D)) (l12 : List (List D)) (l13 : List (List D)) : Rs :=
  let y1 := t49 n1 n2 n3 n4 n5 n6 n7 n8 l9 n10 l11 l12 l13
  let y2 := decide ((l9.length : Int) < (60 : Int))
  chk ((okR zr49 zo49 y1) || !y2) <|
  some ([.one (.b (y2 && (decide ((asI (resC y1 0 0)) < (100000 : Int)))))], [])
def zr84 : List DV := [.one (.b false)]
def zo84 : List (List D) := []
def A84 : List TA := [.ptr [.i .i64, .i .i64, .i .i64, .i .i64, .i .i64, .i .i64, .i .i64, .i .i64, .l, .i .i64, .l, .l, .l]]
def v84 (vs : List Vr) : Rs := t84 (vI vs 0) (vI vs 1) (vI vs 2) (vI vs 3) (vI vs 4) (vI vs 5) (vI vs 6) (vI vs 7) (vL vs 8) (vI vs 9) (vL vs 10) (vL vs 11) (vL vs 12)
def g84 (xs : List DV) : Bool × List DV × List (List D) := gOf zr84 zo84 (argsT A84 v84 xs)
/-- (*impl.Core).own -/
def t85 (n1 : Int) (n2 : Int) (n3 : Int) (n4 : Int) (n5 : Int) (n6 : Int) (n7 : Int) (n8 : Int) (l9 : List (List D)) (n10 : Int) (l11 : List (List D)) (l12 : List (List D)) (l13 : List (List D)) : Rs :=
  let y1 := t49 n1 n2 n3 n4 n5 n6 n7 n8 l9 n10 l11 l12 l13
  chk (okR zr49 zo49 y1) <|
  chk (decide (0 ≤ n1) && decide (n1 < l13.length)) <|
  chk (decide (1 ≤ 1 ∧ (n1.toNat) < l13.length)) <|
  let y2 := stR l13 (n1.toNat) 0 [.i .i64 (asI (resC y1 0 0))]
  let y3 := t49 n1 n2 n3 n4 n5 n6 n7 n8 l9 n10 l11 l12 y2
  chk (okR zr49 zo49 y3) <|
  chk (decide (0 ≤ n1) && decide (n1 < l12.length)) <|
  chk (decide (1 ≤ 1 ∧ (n1.toNat) < l12.length)) <|
  some ([], [[.i .i64 n1, .i .i64 n2, .i .i64 n3, .i .i64 n4, .i .i64 n5, .i .i64 n6, .i .i64 n7, .i .i64 n8, .l l9, .i .i64 n10, .l l11, .l (stR l12 (n1.toNat) 0 [.i .i64 (w64 ((asI (resC y3 0 0)) + (1 : Int)))]), .l y2]])
def zr85 : List DV := []
def zo85 : List (List D) := [[.i .i64 0, .i .i64 0, .i .i64 0, .i .i64 0, .i .i64 0, .i .i64 0, .i .i64 0, .i .i64 0, .l [], .i .i64 0, .l [], .l [], .l []]]
def A85 : List TA := [.ptr [.i .i64, .i .i64, .i .i64, .i .i64, .i .i64, .i .i64, .i .i64, .i .i64, .l, .i .i64, .l, .l, .l]]
def v85 (vs : List Vr) : Rs := t85 (vI vs 0) (vI vs 1) (vI vs 2) (vI vs 3) (vI vs 4) (vI vs 5) (vI vs 6) (vI vs 7) (vL vs 8) (vI vs 9) (vL vs 10) (vL vs 11) (vL vs 12)
def g85 (xs : List DV) : Bool × List DV × List (List D) := gOf zr85 zo85 (argsT A85 v85 xs)
/-- (*impl.Core).term -/
def t64 (n1 : Int) (n2 : Int) (n3 : Int) (n4 : Int) (n5 : Int) (n6 : Int) (n7 : Int) (n8 : Int) (l9 : List (List D)) (n10 : Int) (l11 : List (List D)) (l12 : List (List D)) (l13 : List (List D)) (n14 : Int) : Rs :=
  if n14 == n7 then
   some ([.one (.i .i64 n8)], [])
  else
   let y1 := w64 ((w64 (n14 - n7)) - (1 : Int))
   let y2 := l9.getD y1.toNat []
   chk (decide (0 ≤ y1) && decide (y1 < l9.length) && isRow z92 y2) <|
   some ([.one (.i .i64 (asI (nthD y2 0)))], [])
def zr64 : List DV := [.one (.i .i64 0)]
def zo64 : List (List D) := []
def A64 : List TA := [.ptr [.i .i64, .i .i64, .i .i64, .i .i64, .i .i64, .i .i64, .i .i64, .i .i64, .l, .i .i64, .l, .l, .l], .one (.i .i64)]
def v64 (vs : List Vr) : Rs := t64 (vI vs 0) (vI vs 1) (vI vs 2) (vI vs 3) (vI vs 4) (vI vs 5) (vI vs 6) (vI vs 7) (vL vs 8) (vI vs 9) (vL vs 10) (vL vs 11) (vL vs 12) (vI vs 13)
def g64 (xs : List DV) : Bool × List DV × List (List D) := gOf zr64 zo64 (argsT A64 v64 xs)
def l86o100002 (n146 : Int) (b149 : Bool) (n150 : Int) (n155 : Int) (n156 : Int) (n157 : Int) (n158 : Int) (n159 : Int) (n160 : Int) (n161 : Int) (n162 : Int) (n163 : Int) (l164 : List (List D)) (l165 : List (List D)) (l166 : List (List D)) (l167 : List (List D)) (q1 : Int → SV → Int → Bool → SV → SV → Rs) : Nat → Int → SV → Int → SV → SV → SV → Rs
  | 0, _, _, _, _, _, _ => none
  | m + 1, n147, v148, n151, v152, v153, v154 =>
    let y1 := decide (n151 < n150)
    if y1 then
     chk (decide (0 ≤ n151) && decide (n151 < l167.length)) <|
     let y2 := l167.getD (n151.toNat) []
     chk (decide (1 ≤ y2.length) && isF z3 0 y2) <|
     let k1 := fun (n168 : Int) =>
      let y3 := asI (nthD y2 0)
      let y4 := decide (y3 ≥ n146)
      l86o100002 n146 b149 n150 n155 n156 n157 n158 n159 n160 n161 n162 n163 l164 l165 l166 l167 q1 m n168 (.d (.i .i64 y3)) (w64 (n151 + (1 : Int))) (.d (.b y1)) (.d (.b y4)) (keepV [0, 9, 11, 12, 13] v154)
     let y5 := asI (nthD y2 0)
     let y6 := decide (y5 ≥ n146)
     if y6 then
      k1 (w64 (n147 + (1 : Int)))
     else
      k1 n147
    else
     q1 n147 (keepV [0, 9, 11, 12, 13] v148) n151 y1 (keepV [0, 9, 11, 12, 13] v153) (keepV [0, 9, 11, 12, 13] v154)
def l86o0 (n110 : Int) (n111 : Int) (n112 : Int) (n113 : Int) (n114 : Int) (n115 : Int) (n116 : Int) (n117 : Int) (n118 : Int) (l119 : List (List D)) (l120 : List (List D)) (l121 : List (List D)) (l122 : List (List D)) (q1 : Int → Int → SV → Bool → Int → Int → Bool → SV → Bool → Rs) (q2 : Int → SV → SV → Bool → SV → SV → SV → SV → SV → SV → Rs) : Nat → Int → SV → SV → SV → SV → SV → SV → SV → SV → SV → Rs
  | 0, _, _, _, _, _, _, _, _, _, _ => none
  | m + 1, n100, v101, v102, v103, v104, v105, v106, v107, v108, v109 =>
    let y1 := decide (n100 > n118)
    if y1 then
     let y2 := (l122.length : Int)
     l86o100002 n100 y1 y2 n110 n111 n112 n113 n114 n115 n116 n117 n118 l119 l120 l121 l122
      (fun (n197 : Int) (v198 : SV) (n199 : Int) (b200 : Bool) (v201 : SV) (v202 : SV) =>
       let y3 := t64 n110 n111 n112 n113 n114 n115 n116 n117 l119 n118 l120 l121 l122 n100
       chk (okR zr64 zo64 y3) <|
       let y4 := t77 n110 n111 n112 n113 n114 n115 n116 n117 l119 n118 l120 l121 l122 n197
       let y5 := (asI (resC y3 0 0)) == n112
       chk ((okR zr77 zo77 y4) || !y5) <|
       let y6 := y5 && (asB (resC y4 0 0))
       if y6 then
        q1 n100 n197 v198 y1 y2 n199 b200 v201 y6
       else
        l86o0 n110 n111 n112 n113 n114 n115 n116 n117 n118 l119 l120 l121 l122 q1 q2 m (w64 (n100 - (1 : Int))) (.d (.i .i64 n197)) (keepV [0, 9, 11, 12, 13] v198) (.d (.b y1)) (SV.own 13) (.d (.i .i64 y2)) (.d (.i .i64 n199)) (.d (.b b200)) (keepV [0, 9, 11, 12, 13] v201) (.d (.b y6))) KK (0 : Int) v102 (0 : Int) v107 v108 v109
    else
     q2 n100 (keepV [0, 9, 11, 12, 13] v101) (keepV [0, 9, 11, 12, 13] v102) y1 (keepV [0, 9, 11, 12, 13] v104) (keepV [0, 9, 11, 12, 13] v105) (keepV [0, 9, 11, 12, 13] v106) (keepV [0, 9, 11, 12, 13] v107) (keepV [0, 9, 11, 12, 13] v108) (keepV [0, 9, 11, 12, 13] v109)
/-- (*impl.Core).counts -/
def t86 (n1 : Int) (n2 : Int) (n3 : Int) (n4 : Int) (n5 : Int) (n6 : Int) (n7 : Int) (n8 : Int) (l9 : List (List D)) (n10 : Int) (l11 : List (List D)) (l12 : List (List D)) (l13 : List (List D)) : Rs :=
  let y1 := t49 n1 n2 n3 n4 n5 n6 n7 n8 l9 n10 l11 l12 l13
  chk (okR zr49 zo49 y1) <|
  l86o0 n1 n2 n3 n4 n5 n6 n7 n8 n10 l9 l11 l12 l13
   (fun (n245 : Int) (n246 : Int) (v247 : SV) (b248 : Bool) (n249 : Int) (n250 : Int) (b251 : Bool) (v252 : SV) (b253 : Bool) =>
    some ([], [[.i .i64 n1, .i .i64 n2, .i .i64 n3, .i .i64 n4, .i .i64 n5, .i .i64 n6, .i .i64 n7, .i .i64 n8, .l l9, .i .i64 n245, .l l11, .l l12, .l l13]]))
   (fun (n254 : Int) (v255 : SV) (v256 : SV) (b257 : Bool) (v258 : SV) (v259 : SV) (v260 : SV) (v261 : SV) (v262 : SV) (v263 : SV) =>
    some ([], [[.i .i64 n1, .i .i64 n2, .i .i64 n3, .i .i64 n4, .i .i64 n5, .i .i64 n6, .i .i64 n7, .i .i64 n8, .l l9, .i .i64 n10, .l l11, .l l12, .l l13]])) KK (asI (resC y1 0 0)) SV.undef SV.undef SV.undef SV.undef SV.undef SV.undef SV.undef SV.undef SV.undef
def zr86 : List DV := []
def zo86 : List (List D) := [[.i .i64 0, .i .i64 0, .i .i64 0, .i .i64 0, .i .i64 0, .i .i64 0, .i .i64 0, .i .i64 0, .l [], .i .i64 0, .l [], .l [], .l []]]
def A86 : List TA := [.ptr [.i .i64, .i .i64, .i .i64, .i .i64, .i .i64, .i .i64, .i .i64, .i .i64, .l, .i .i64, .l, .l, .l]]
def v86 (vs : List Vr) : Rs := t86 (vI vs 0) (vI vs 1) (vI vs 2) (vI vs 3) (vI vs 4) (vI vs 5) (vI vs 6) (vI vs 7) (vL vs 8) (vI vs 9) (vL vs 10) (vL vs 11) (vL vs 12)
def g86 (xs : List DV) : Bool × List DV × List (List D) := gOf zr86 zo86 (argsT A86 v86 xs)
def l81o0 (n31 : Int) (n32 : Int) (n33 : Int) (n34 : Int) (n35 : Int) (n36 : Int) (n37 : Int) (n38 : Int) (l39 : List (List D)) (n40 : Int) (l41 : List (List D)) (l42 : List (List D)) (l43 : List (List D)) (n45 : Int) (q1 : SV → Int → Bool → SV → List (List D) → Rs) : Nat → SV → Int → SV → SV → List (List D) → Rs
  | 0, _, _, _, _, _ => none
  | m + 1, v44, n46, v47, v48, l49 =>
    let y1 := decide (n46 < n45)
    if y1 then
     let k1 := fun (l50 : List (List D)) =>
      l81o0 n31 n32 n33 n34 n35 n36 n37 n38 l39 n40 l41 l42 l43 n45 q1 m (.d (.i .i64 n46)) (w64 (n46 + (1 : Int))) (.d (.b y1)) (.d (.b (n46 != n31))) l50
     if n46 != n31 then
      let y2 := ([[.i .i64 n46]] : List (List D))
      chk ((flatR 1 y2) && decide (l49.length + y2.length ≤ lim)) <|
      k1 (l49 ++ y2)
     else
      k1 l49
    else
     q1 (keepV [320] v44) n46 y1 (keepV [320] v48) l49
/-- (*impl.Core).others -/
def t81 (n1 : Int) (n2 : Int) (n3 : Int) (n4 : Int) (n5 : Int) (n6 : Int) (n7 : Int) (n8 : Int) (l9 : List (List D)) (n10 : Int) (l11 : List (List D)) (l12 : List (List D)) (l13 : List (List D)) : Rs :=
  l81o0 n1 n2 n3 n4 n5 n6 n7 n8 l9 n10 l11 l12 l13 n2
   (fun (v75 : SV) (n76 : Int) (b77 : Bool) (v78 : SV) (l79 : List (List D)) =>
    some ([.one (.l l79)], [])) KK SV.undef (0 : Int) SV.undef SV.undef ([] : List (List D))
def zr81 : List DV := [.one (.l [])]
def zo81 : List (List D) := []
def A81 : List TA := [.ptr [.i .i64, .i .i64, .i .i64, .i .i64, .i .i64, .i .i64, .i .i64, .i .i64, .l, .i .i64, .l, .l, .l]]
def v81 (vs : List Vr) : Rs := t81 (vI vs 0) (vI vs 1) (vI vs 2) (vI vs 3) (vI vs 4) (vI vs 5) (vI vs 6) (vI vs 7) (vL vs 8) (vI vs 9) (vL vs 10) (vL vs 11) (vL vs 12)
def g81 (xs : List DV) : Bool × List DV × List (List D) := gOf zr81 zo81 (argsT A81 v81 xs)
/-- (*impl.Core).sends -/
def t82 (n1 : Int) (n2 : Int) (n3 : Int) (n4 : Int) (n5 : Int) (n6 : Int) (n7 : Int) (n8 : Int) (l9 : List (List D)) (n10 : Int) (l11 : List (List D)) (l12 : List (List D)) (l13 : List (List D)) (n14 : Int) : Rs :=
  let y1 := l12.getD n14.toNat []
  chk (decide (0 ≤ n14) && decide (n14 < l12.length) && isRow z3 y1) <|
  let y2 := asI (nthD y1 0)
  if decide (y2 ≤ n7) then
   some ([.agg [.i .i64 (5 : Int), .i .i64 n1, .i .i64 n14, .i .i64 n3, .i .i64 n7, .i .i64 n8, .i .i64 (0 : Int), .b false, .l ([] : List (List D)), .s (⟨#[]⟩ : ByteArray)]], [])
  else
   let y3 := t64 n1 n2 n3 n4 n5 n6 n7 n8 l9 n10 l11 l12 l13 (w64 (y2 - (1 : Int)))
   chk (okR zr64 zo64 y3) <|
   let y4 := w64 ((w64 (y2 - (1 : Int))) - n7)
   chk (decide (0 ≤ y4 ∧ y4 ≤ l9.length ∧ (l9.getD 0 z92).length = z92.length)) <|
   let y5 := l9.drop y4.toNat
   let y6 := (y5.length : Int)
   let y7 := if y6 < (4 : Int) then y6 else (4 : Int)
   chk (decide (0 ≤ (0 : Int) ∧ (0 : Int) ≤ y7 ∧ y7 ≤ y5.length ∧ (y5.getD 0 z92).length = z92.length)) <|
   let y8 := (y5.take y7.toNat).drop (0 : Int).toNat
   chk ((flatR 2 y8) && decide (y8.length ≤ lim)) <|
   some ([.agg [.i .i64 (3 : Int), .i .i64 n1, .i .i64 n14, .i .i64 n3, .i .i64 (w64 (y2 - (1 : Int))), .i .i64 (asI (resC y3 0 0)), .i .i64 n10, .b false, .l y8, .s (⟨#[]⟩ : ByteArray)]], [])
def zr82 : List DV := [.agg [.i .i64 0, .i .i64 0, .i .i64 0, .i .i64 0, .i .i64 0, .i .i64 0, .i .i64 0, .b false, .l [], .s ⟨#[]⟩]]
def zo82 : List (List D) := []
def A82 : List TA := [.ptr [.i .i64, .i .i64, .i .i64, .i .i64, .i .i64, .i .i64, .i .i64, .i .i64, .l, .i .i64, .l, .l, .l], .one (.i .i64)]
def v82 (vs : List Vr) : Rs := t82 (vI vs 0) (vI vs 1) (vI vs 2) (vI vs 3) (vI vs 4) (vI vs 5) (vI vs 6) (vI vs 7) (vL vs 8) (vI vs 9) (vL vs 10) (vL vs 11) (vL vs 12) (vI vs 13)
def g82 (xs : List DV) : Bool × List DV × List (List D) := gOf zr82 zo82 (argsT A82 v82 xs)
def l66o0 (n31 : Int) (n32 : Int) (n33 : Int) (n34 : Int) (n35 : Int) (n36 : Int) (n37 : Int) (n38 : Int) (l39 : List (List D)) (n40 : Int) (l41 : List (List D)) (l42 : List (List D)) (l43 : List (List D)) (n45 : Int) (l49 : List (List D)) (q1 : SV → Int → Bool → List (List D) → Rs) : Nat → SV → Int → SV → List (List D) → Rs
  | 0, _, _, _, _ => none
  | m + 1, v44, n46, v47, l48 =>
    let y1 := decide (n46 < n45)
    if y1 then
     chk (decide (0 ≤ n46) && decide (n46 < l49.length)) <|
     let y2 := l49.getD (n46.toNat) []
     chk (decide (1 ≤ y2.length) && isF z3 0 y2) <|
     let y3 := asI (nthD y2 0)
     let y4 := t82 n31 n32 n33 n34 n35 n36 n37 n38 l39 n40 l41 l42 l43 y3
     chk (okR zr82 zo82 y4) <|
     let y5 := ([[.i .i64 (asI (resC y4 0 0)), .i .i64 (asI (resC y4 0 1)), .i .i64 (asI (resC y4 0 2)), .i .i64 (asI (resC y4 0 3)), .i .i64 (asI (resC y4 0 4)), .i .i64 (asI (resC y4 0 5)), .i .i64 (asI (resC y4 0 6)), .b (asB (resC y4 0 7)), .l (asL (resC y4 0 8)), .s (asS (resC y4 0 9))]] : List (List D))
     chk (true && decide (l48.length + y5.length ≤ lim)) <|
     l66o0 n31 n32 n33 n34 n35 n36 n37 n38 l39 n40 l41 l42 l43 n45 l49 q1 m (.d (.i .i64 y3)) (w64 (n46 + (1 : Int))) (.d (.b y1)) (l48 ++ y5)
    else
     q1 (keepV [384, 512] v44) n46 y1 l48
/-- (*impl.Core).sendsAll -/
def t66 (n1 : Int) (n2 : Int) (n3 : Int) (n4 : Int) (n5 : Int) (n6 : Int) (n7 : Int) (n8 : Int) (l9 : List (List D)) (n10 : Int) (l11 : List (List D)) (l12 : List (List D)) (l13 : List (List D)) : Rs :=
  let y1 := t81 n1 n2 n3 n4 n5 n6 n7 n8 l9 n10 l11 l12 l13
  chk (okR zr81 zo81 y1) <|
  let y2 := asL (resC y1 0 0)
  l66o0 n1 n2 n3 n4 n5 n6 n7 n8 l9 n10 l11 l12 l13 (y2.length : Int) y2
   (fun (v73 : SV) (n74 : Int) (b75 : Bool) (l76 : List (List D)) =>
    some ([.one (.l l76)], [])) KK SV.undef (0 : Int) SV.undef ([] : List (List D))
def zr66 : List DV := [.one (.l [])]
def zo66 : List (List D) := []
def A66 : List TA := [.ptr [.i .i64, .i .i64, .i .i64, .i .i64, .i .i64, .i .i64, .i .i64, .i .i64, .l, .i .i64, .l, .l, .l]]
def v66 (vs : List Vr) : Rs := t66 (vI vs 0) (vI vs 1) (vI vs 2) (vI vs 3) (vI vs 4) (vI vs 5) (vI vs 6) (vI vs 7) (vL vs 8) (vI vs 9) (vL vs 10) (vL vs 11) (vL vs 12)
def g66 (xs : List DV) : Bool × List DV × List (List D) := gOf zr66 zo66 (argsT A66 v66 xs)
def l87o0 (n32 : Int) (n35 : Int) (n36 : Int) (n37 : Int) (n38 : Int) (n39 : Int) (n40 : Int) (n41 : Int) (n42 : Int) (n43 : Int) (l44 : List (List D)) (l45 : List (List D)) (l46 : List (List D)) (l47 : List (List D)) (l49 : List (List D)) (q1 : SV → Int → Bool → List (List D) → Rs) : Nat → SV → Int → SV → List (List D) → Rs
  | 0, _, _, _, _ => none
  | m + 1, v31, n33, v34, l48 =>
    let y1 := decide (n33 < n32)
    if y1 then
     let y2 := t49 n35 n36 n37 n38 n39 n40 n41 n42 l44 n43 ([] : List (List D)) l48 l49
     chk (okR zr49 zo49 y2) <|
     chk (decide (0 ≤ n33) && decide (n33 < l48.length)) <|
     chk (decide (1 ≤ 1 ∧ (n33.toNat) < l48.length)) <|
     l87o0 n32 n35 n36 n37 n38 n39 n40 n41 n42 n43 l44 l45 l46 l47 l49 q1 m (.d (.i .i64 n33)) (w64 (n33 + (1 : Int))) (.d (.b y1)) (stR l48 (n33.toNat) 0 [.i .i64 (w64 ((asI (resC y2 0 0)) + (1 : Int)))])
    else
     q1 (keepV [0, 9, 11, 12, 13, 1408, 1920] v31) n33 y1 l48
/-- (*impl.Core).leads -/
def t87 (n1 : Int) (n2 : Int) (n3 : Int) (n4 : Int) (n5 : Int) (n6 : Int) (n7 : Int) (n8 : Int) (l9 : List (List D)) (n10 : Int) (l11 : List (List D)) (l12 : List (List D)) (l13 : List (List D)) : Rs :=
  chk (decide (0 ≤ n2 ∧ n2 ≤ lim ∧ n2 = n2)) <|
  chk (decide (0 ≤ n2 ∧ n2 ≤ lim ∧ n2 = n2)) <|
  let y1 := List.replicate n2.toNat z3
  let y2 := List.replicate n2.toNat z3
  l87o0 (y1.length : Int) n1 n2 n3 n4 (3 : Int) n1 n7 n8 n10 l9 l11 l12 l13 y2
   (fun (v73 : SV) (n74 : Int) (b75 : Bool) (l76 : List (List D)) =>
    let y3 := t84 n1 n2 n3 n4 (3 : Int) n1 n7 n8 l9 n10 ([] : List (List D)) l76 y2
    chk (okR zr84 zo84 y3) <|
    if asB (resC y3 0 0) then
     let y4 := ([[.i .i64 n3, .s (⟨#[]⟩ : ByteArray)]] : List (List D))
     chk ((flatR 2 y4) && decide (l9.length + y4.length ≤ lim)) <|
     let y5 := t85 n1 n2 n3 n4 (3 : Int) n1 n7 n8 (l9 ++ y4) n10 ([] : List (List D)) l76 y2
     chk (okR zr85 zo85 y5) <|
     let y6 := t86 (asI (outC y5 0 0)) (asI (outC y5 0 1)) (asI (outC y5 0 2)) (asI (outC y5 0 3)) (asI (outC y5 0 4)) (asI (outC y5 0 5)) (asI (outC y5 0 6)) (asI (outC y5 0 7)) (asL (outC y5 0 8)) (asI (outC y5 0 9)) (asL (outC y5 0 10)) (asL (outC y5 0 11)) (asL (outC y5 0 12))
     chk (okR zr86 zo86 y6) <|
     let y7 := asI (outC y6 0 0)
     let y8 := asI (outC y6 0 1)
     let y9 := asI (outC y6 0 2)
     let y10 := asI (outC y6 0 3)
     let y11 := asI (outC y6 0 4)
     let y12 := asI (outC y6 0 5)
     let y13 := asI (outC y6 0 6)
     let y14 := asI (outC y6 0 7)
     let y15 := asL (outC y6 0 8)
     let y16 := asI (outC y6 0 9)
     let y17 := asL (outC y6 0 10)
     let y18 := asL (outC y6 0 11)
     let y19 := asL (outC y6 0 12)
     let y20 := t66 y7 y8 y9 y10 y11 y12 y13 y14 y15 y16 y17 y18 y19
     chk (okR zr66 zo66 y20) <|
     some ([.one (.l (asL (resC y20 0 0)))], [[.i .i64 y7, .i .i64 y8, .i .i64 y9, .i .i64 y10, .i .i64 y11, .i .i64 y12, .i .i64 y13, .i .i64 y14, .l y15, .i .i64 y16, .l y17, .l y18, .l y19]])
    else
     let y21 := t85 n1 n2 n3 n4 (3 : Int) n1 n7 n8 l9 n10 ([] : List (List D)) l76 y2
     chk (okR zr85 zo85 y21) <|
     let y22 := t86 (asI (outC y21 0 0)) (asI (outC y21 0 1)) (asI (outC y21 0 2)) (asI (outC y21 0 3)) (asI (outC y21 0 4)) (asI (outC y21 0 5)) (asI (outC y21 0 6)) (asI (outC y21 0 7)) (asL (outC y21 0 8)) (asI (outC y21 0 9)) (asL (outC y21 0 10)) (asL (outC y21 0 11)) (asL (outC y21 0 12))
     chk (okR zr86 zo86 y22) <|
     let y23 := asI (outC y22 0 0)
     let y24 := asI (outC y22 0 1)
     let y25 := asI (outC y22 0 2)
     let y26 := asI (outC y22 0 3)
     let y27 := asI (outC y22 0 4)
     let y28 := asI (outC y22 0 5)
     let y29 := asI (outC y22 0 6)
     let y30 := asI (outC y22 0 7)
     let y31 := asL (outC y22 0 8)
     let y32 := asI (outC y22 0 9)
     let y33 := asL (outC y22 0 10)
     let y34 := asL (outC y22 0 11)
     let y35 := asL (outC y22 0 12)
     let y36 := t66 y23 y24 y25 y26 y27 y28 y29 y30 y31 y32 y33 y34 y35
     chk (okR zr66 zo66 y36) <|
     some ([.one (.l (asL (resC y36 0 0)))], [[.i .i64 y23, .i .i64 y24, .i .i64 y25, .i .i64 y26, .i .i64 y27, .i .i64 y28, .i .i64 y29, .i .i64 y30, .l y31, .i .i64 y32, .l y33, .l y34, .l y35]])) KK SV.undef (0 : Int) SV.undef y1
def zr87 : List DV := [.one (.l [])]
def zo87 : List (List D) := [[.i .i64 0, .i .i64 0, .i .i64 0, .i .i64 0, .i .i64 0, .i .i64 0, .i .i64 0, .i .i64 0, .l [], .i .i64 0, .l [], .l [], .l []]]
def A87 : List TA := [.ptr [.i .i64, .i .i64, .i .i64, .i .i64, .i .i64, .i .i64, .i .i64, .i .i64, .l, .i .i64, .l, .l, .l]]
def v87 (vs : List Vr) : Rs := t87 (vI vs 0) (vI vs 1) (vI vs 2) (vI vs 3) (vI vs 4) (vI vs 5) (vI vs 6) (vI vs 7) (vL vs 8) (vI vs 9) (vL vs 10) (vL vs 11) (vL vs 12)
def g87 (xs : List DV) : Bool × List DV × List (List D) := gOf zr87 zo87 (argsT A87 v87 xs)
def l72o2 (b35 : Bool) (b36 : Bool) (n37 : Int) (n40 : Int) (n41 : Int) (n42 : Int) (n43 : Int) (n44 : Int) (n45 : Int) (n46 : Int) (n47 : Int) (n48 : Int) (l49 : List (List D)) (l50 : List (List D)) (l51 : List (List D)) (l52 : List (List D)) (l53 : List (List D)) (l55 : List (List D)) (q1 : SV → Int → Bool → List (List D) → Rs) : Nat → SV → Int → SV → List (List D) → Rs
  | 0, _, _, _, _ => none
  | m + 1, v34, n38, v39, l54 =>
    let y1 := decide (n38 < n37)
    if y1 then
     chk (decide (0 ≤ n38) && decide (n38 < l55.length)) <|
     let y2 := l55.getD (n38.toNat) []
     chk (decide (1 ≤ y2.length) && isF z3 0 y2) <|
     let y3 := t49 n40 n41 n42 n43 n44 n45 n46 n47 l49 n48 l53 l51 l52
     chk (okR zr49 zo49 y3) <|
     let y4 := t49 n40 n41 n42 n43 n44 n45 n46 n47 l49 n48 l53 l51 l52
     chk (okR zr49 zo49 y4) <|
     let y5 := t64 n40 n41 n42 n43 n44 n45 n46 n47 l49 n48 l53 l51 l52 (asI (resC y4 0 0))
     chk (okR zr64 zo64 y5) <|
     let y6 := asI (nthD y2 0)
     let y7 := ([[.i .i64 (1 : Int), .i .i64 n40, .i .i64 y6, .i .i64 n42, .i .i64 (asI (resC y3 0 0)), .i .i64 (asI (resC y5 0 0)), .i .i64 (0 : Int), .b false, .l ([] : List (List D)), .s (⟨#[]⟩ : ByteArray)]] : List (List D))
     chk (true && decide (l54.length + y7.length ≤ lim)) <|
     l72o2 b35 b36 n37 n40 n41 n42 n43 n44 n45 n46 n47 n48 l49 l50 l51 l52 l53 l55 q1 m (.d (.i .i64 y6)) (w64 (n38 + (1 : Int))) (.d (.b y1)) (l54 ++ y7)
    else
     q1 (keepV [0, 9, 11, 12, 13, 2752, 3200, 3328] v34) n38 y1 l54
/-- (*impl.Core).elect -/
def t72 (n1 : Int) (n2 : Int) (n3 : Int) (n4 : Int) (n5 : Int) (n6 : Int) (n7 : Int) (n8 : Int) (l9 : List (List D)) (n10 : Int) (l11 : List (List D)) (l12 : List (List D)) (l13 : List (List D)) : Rs :=
  let y1 := (n5 == (3 : Int)) || (n3 == (100000 : Int))
  if y1 then
   some ([.one (.l ([] : List (List D)))], [[.i .i64 n1, .i .i64 n2, .i .i64 n3, .i .i64 n4, .i .i64 n5, .i .i64 n6, .i .i64 n7, .i .i64 n8, .l l9, .i .i64 n10, .l l11, .l l12, .l l13]])
  else
   let y2 := w64 (n3 + (1 : Int))
   let y3 := ([[.i .i64 n1]] : List (List D))
   let y4 := t77 n1 n2 y2 n1 (2 : Int) (-1 : Int) n7 n8 l9 n10 y3 l12 l13 (1 : Int)
   chk (okR zr77 zo77 y4) <|
   let y5 := asB (resC y4 0 0)
   if y5 then
    let y6 := t87 n1 n2 y2 n1 (2 : Int) (-1 : Int) n7 n8 l9 n10 y3 l12 l13
    chk (okR zr87 zo87 y6) <|
    some ([.one (.l (asL (resC y6 0 0)))], [[.i .i64 (asI (outC y6 0 0)), .i .i64 (asI (outC y6 0 1)), .i .i64 (asI (outC y6 0 2)), .i .i64 (asI (outC y6 0 3)), .i .i64 (asI (outC y6 0 4)), .i .i64 (asI (outC y6 0 5)), .i .i64 (asI (outC y6 0 6)), .i .i64 (asI (outC y6 0 7)), .l (asL (outC y6 0 8)), .i .i64 (asI (outC y6 0 9)), .l (asL (outC y6 0 10)), .l (asL (outC y6 0 11)), .l (asL (outC y6 0 12))]])
   else
    let y7 := t81 n1 n2 y2 n1 (2 : Int) (-1 : Int) n7 n8 l9 n10 y3 l12 l13
    chk (okR zr81 zo81 y7) <|
    let y8 := asL (resC y7 0 0)
    l72o2 y1 y5 (y8.length : Int) n1 n2 y2 n1 (2 : Int) (-1 : Int) n7 n8 n10 l9 l11 l12 l13 y3 y8
     (fun (v82 : SV) (n83 : Int) (b84 : Bool) (l85 : List (List D)) =>
      some ([.one (.l l85)], [[.i .i64 n1, .i .i64 n2, .i .i64 y2, .i .i64 n1, .i .i64 (2 : Int), .i .i64 (-1 : Int), .i .i64 n7, .i .i64 n8, .l l9, .i .i64 n10, .l y3, .l l12, .l l13]])) KK SV.undef (0 : Int) SV.undef ([] : List (List D))
def zr72 : List DV := [.one (.l [])]
def zo72 : List (List D) := [[.i .i64 0, .i .i64 0, .i .i64 0, .i .i64 0, .i .i64 0, .i .i64 0, .i .i64 0, .i .i64 0, .l [], .i .i64 0, .l [], .l [], .l []]]
def A72 : List TA := [.ptr [.i .i64, .i .i64, .i .i64, .i .i64, .i .i64, .i .i64, .i .i64, .i .i64, .l, .i .i64, .l, .l, .l]]
def v72 (vs : List Vr) : Rs := t72 (vI vs 0) (vI vs 1) (vI vs 2) (vI vs 3) (vI vs 4) (vI vs 5) (vI vs 6) (vI vs 7) (vL vs 8) (vI vs 9) (vL vs 10) (vL vs 11) (vL vs 12)
def g72 (xs : List DV) : Bool × List DV × List (List D) := gOf zr72 zo72 (argsT A72 v72 xs)
/-- impl.Elect -/
def t36 (n1 : Int) (n2 : Int) (n3 : Int) (n4 : Int) (n5 : Int) (n6 : Int) (n7 : Int) (n8 : Int) (l9 : List (List D)) (n10 : Int) (l11 : List (List D)) (l12 : List (List D)) (l13 : List (List D)) : Rs :=
  let y1 := t13 n1 n2 n3 n4 n5 n6 n7 n8 l9 n10 l11 l12 l13
  chk (okR zr13 zo13 y1) <|
  if !(asB (resC y1 0 0)) then
   some ([.agg [.i .i64 (0 : Int), .i .i64 (0 : Int), .i .i64 (0 : Int), .i .i64 (0 : Int), .i .i64 (0 : Int), .i .i64 (0 : Int), .i .i64 (0 : Int), .i .i64 (0 : Int), .l ([] : List (List D)), .i .i64 (0 : Int), .l ([] : List (List D)), .l ([] : List (List D)), .l ([] : List (List D))], .one (.l ([] : List (List D)))], [])
  else
   let y2 := t63 n1 n2 n3 n4 n5 n6 n7 n8 l9 n10 l11 l12 l13
   chk (okR zr63 zo63 y2) <|
   let y3 := t72 (asI (resC y2 0 0)) (asI (resC y2 0 1)) (asI (resC y2 0 2)) (asI (resC y2 0 3)) (asI (resC y2 0 4)) (asI (resC y2 0 5)) (asI (resC y2 0 6)) (asI (resC y2 0 7)) (asL (resC y2 0 8)) (asI (resC y2 0 9)) (asL (resC y2 0 10)) (asL (resC y2 0 11)) (asL (resC y2 0 12))
   chk (okR zr72 zo72 y3) <|
   some ([.agg [.i .i64 (asI (outC y3 0 0)), .i .i64 (asI (outC y3 0 1)), .i .i64 (asI (outC y3 0 2)), .i .i64 (asI (outC y3 0 3)), .i .i64 (asI (outC y3 0 4)), .i .i64 (asI (outC y3 0 5)), .i .i64 (asI (outC y3 0 6)), .i .i64 (asI (outC y3 0 7)), .l (asL (outC y3 0 8)), .i .i64 (asI (outC y3 0 9)), .l (asL (outC y3 0 10)), .l (asL (outC y3 0 11)), .l (asL (outC y3 0 12))], .one (.l (asL (resC y3 0 0)))], [])
def zr36 : List DV := [.agg [.i .i64 0, .i .i64 0, .i .i64 0, .i .i64 0, .i .i64 0, .i .i64 0, .i .i64 0, .i .i64 0, .l [], .i .i64 0, .l [], .l [], .l []], .one (.l [])]
def zo36 : List (List D) := []
def A36 : List TA := [.agg [.i .i64, .i .i64, .i .i64, .i .i64, .i .i64, .i .i64, .i .i64, .i .i64, .l, .i .i64, .l, .l, .l]]
def v36 (vs : List Vr) : Rs := t36 (vI vs 0) (vI vs 1) (vI vs 2) (vI vs 3) (vI vs 4) (vI vs 5) (vI vs 6) (vI vs 7) (vL vs 8) (vI vs 9) (vL vs 10) (vL vs 11) (vL vs 12)
def g36 (xs : List DV) : Bool × List DV × List (List D) := gOf zr36 zo36 (argsT A36 v36 xs)
/-- laws.eqEntry -/
def t78 (n1 : Int) (s2 : ByteArray) (n3 : Int) (s4 : ByteArray) : Rs :=
  if n1 != n3 then
   some ([.one (.b false)], [])
  else
   if !(s2.toList == s4.toList) then
    some ([.one (.b false)], [])
   else
    some ([.one (.b true)], [])
def zr78 : List DV := [.one (.b false)]
def zo78 : List (List D) := []
def A78 : List TA := [.agg [.i .i64, .s], .agg [.i .i64, .s]]
def v78 (vs : List Vr) : Rs := t78 (vI vs 0) (vS vs 1) (vI vs 2) (vS vs 3)
def g78 (xs : List DV) : Bool × List DV × List (List D) := gOf zr78 zo78 (argsT A78 v78 xs)
def l52o1 (l8 : List (List D)) (l9 : List (List D)) (b10 : Bool) (b12 : Bool) (q1 : Int → Bool → Bool → Rs) (q2 : Int → Bool → SV → Rs) : Nat → Int → SV → SV → Rs
  | 0, _, _, _ => none
  | m + 1, n11, v13, v14 =>
    let y1 := decide (n11 < (l8.length : Int))
    if y1 then
     let y2 := l8.getD n11.toNat []
     chk (decide (0 ≤ n11) && decide (n11 < l8.length) && isRow z92 y2) <|
     let y3 := l9.getD n11.toNat []
     chk (decide (0 ≤ n11) && decide (n11 < l9.length) && isRow z92 y3) <|
     let y4 := t78 (asI (nthD y2 0)) (asS (nthD y2 1)) (asI (nthD y3 0)) (asS (nthD y3 1))
     chk (okR zr78 zo78 y4) <|
     let y5 := !(asB (resC y4 0 0))
     if y5 then
      q1 n11 y1 y5
     else
      l52o1 l8 l9 b10 b12 q1 q2 m (w64 (n11 + (1 : Int))) (.d (.b y1)) (.d (.b y5))
    else
     q2 n11 y1 (keepV [] v14)
/-- laws.eqEntryS -/
def t52 (l1 : List (List D)) (l2 : List (List D)) : Rs :=
  let y1 := (l1.length : Int) != (l2.length : Int)
  if y1 then
   some ([.one (.b false)], [])
  else
   l52o1 l1 l2 false y1
    (fun (n28 : Int) (b29 : Bool) (b30 : Bool) =>
     some ([.one (.b false)], []))
    (fun (n31 : Int) (b32 : Bool) (v33 : SV) =>
     some ([.one (.b true)], [])) KK (0 : Int) SV.undef SV.undef
def zr52 : List DV := [.one (.b false)]
def zo52 : List (List D) := []
def A52 : List TA := [.one (.l), .one (.l)]
def v52 (vs : List Vr) : Rs := t52 (vL vs 0) (vL vs 1)
def g52 (xs : List DV) : Bool × List DV × List (List D) := gOf zr52 zo52 (argsT A52 v52 xs)
def l53o1 (l8 : List (List D)) (l9 : List (List D)) (b10 : Bool) (b12 : Bool) (q1 : Int → Bool → Bool → Rs) (q2 : Int → Bool → SV → Rs) : Nat → Int → SV → SV → Rs
  | 0, _, _, _ => none
  | m + 1, n11, v13, v14 =>
    let y1 := decide (n11 < (l8.length : Int))
    if y1 then
     let y2 := l8.getD n11.toNat []
     chk (decide (0 ≤ n11) && decide (n11 < l8.length) && isRow z3 y2) <|
     let y3 := l9.getD n11.toNat []
     chk (decide (0 ≤ n11) && decide (n11 < l9.length) && isRow z3 y3) <|
     let y4 := (asI (nthD y2 0)) != (asI (nthD y3 0))
     if y4 then
      q1 n11 y1 y4
     else
      l53o1 l8 l9 b10 b12 q1 q2 m (w64 (n11 + (1 : Int))) (.d (.b y1)) (.d (.b y4))
    else
     q2 n11 y1 (keepV [] v14)
/-- laws.eqIntS -/
def t53 (l1 : List (List D)) (l2 : List (List D)) : Rs :=
  let y1 := (l1.length : Int) != (l2.length : Int)
  if y1 then
   some ([.one (.b false)], [])
  else
   l53o1 l1 l2 false y1
    (fun (n28 : Int) (b29 : Bool) (b30 : Bool) =>
     some ([.one (.b false)], []))
    (fun (n31 : Int) (b32 : Bool) (v33 : SV) =>
     some ([.one (.b true)], [])) KK (0 : Int) SV.undef SV.undef
def zr53 : List DV := [.one (.b false)]
def zo53 : List (List D) := []
def A53 : List TA := [.one (.l), .one (.l)]
def v53 (vs : List Vr) : Rs := t53 (vL vs 0) (vL vs 1)
def g53 (xs : List DV) : Bool × List DV × List (List D) := gOf zr53 zo53 (argsT A53 v53 xs)
/-- laws.eqCore -/
def t14 (n1 : Int) (n2 : Int) (n3 : Int) (n4 : Int) (n5 : Int) (n6 : Int) (n7 : Int) (n8 : Int) (l9 : List (List D)) (n10 : Int) (l11 : List (List D)) (l12 : List (List D)) (l13 : List (List D)) (n14 : Int) (n15 : Int) (n16 : Int) (n17 : Int) (n18 : Int) (n19 : Int) (n20 : Int) (n21 : Int) (l22 : List (List D)) (n23 : Int) (l24 : List (List D)) (l25 : List (List D)) (l26 : List (List D)) : Rs :=
  if n1 != n14 then
   some ([.one (.b false)], [])
  else
   if n2 != n15 then
    some ([.one (.b false)], [])
   else
    if n3 != n16 then
     some ([.one (.b false)], [])
    else
     if n4 != n17 then
      some ([.one (.b false)], [])
     else
      if n5 != n18 then
       some ([.one (.b false)], [])
      else
       if n6 != n19 then
        some ([.one (.b false)], [])
       else
        if n7 != n20 then
         some ([.one (.b false)], [])
        else
         if n8 != n21 then
          some ([.one (.b false)], [])
         else
          chk (okR zr52 zo52 (t52 l9 l22)) <|
          if !(asB (resC (t52 l9 l22) 0 0)) then
           some ([.one (.b false)], [])
          else
           if n10 != n23 then
            some ([.one (.b false)], [])
           else
            chk (okR zr53 zo53 (t53 l11 l24)) <|
            if !(asB (resC (t53 l11 l24) 0 0)) then
             some ([.one (.b false)], [])
            else
             chk (okR zr53 zo53 (t53 l12 l25)) <|
             if !(asB (resC (t53 l12 l25) 0 0)) then
              some ([.one (.b false)], [])
             else
              chk (okR zr53 zo53 (t53 l13 l26)) <|
              if !(asB (resC (t53 l13 l26) 0 0)) then
               some ([.one (.b false)], [])
              else
               some ([.one (.b true)], [])
def zr14 : List DV := [.one (.b false)]
def zo14 : List (List D) := []
def A14 : List TA := [.agg [.i .i64, .i .i64, .i .i64, .i .i64, .i .i64, .i .i64, .i .i64, .i .i64, .l, .i .i64, .l, .l, .l], .agg [.i .i64, .i .i64, .i .i64, .i .i64, .i .i64, .i .i64, .i .i64, .i .i64, .l, .i .i64, .l, .l, .l]]
def v14 (vs : List Vr) : Rs := t14 (vI vs 0) (vI vs 1) (vI vs 2) (vI vs 3) (vI vs 4) (vI vs 5) (vI vs 6) (vI vs 7) (vL vs 8) (vI vs 9) (vL vs 10) (vL vs 11) (vL vs 12) (vI vs 13) (vI vs 14) (vI vs 15) (vI vs 16) (vI vs 17) (vI vs 18) (vI vs 19) (vI vs 20) (vL vs 21) (vI vs 22) (vL vs 23) (vL vs 24) (vL vs 25)
def g14 (xs : List DV) : Bool × List DV × List (List D) := gOf zr14 zo14 (argsT A14 v14 xs)
/-- laws.eqMsg -/
def t67 (n1 : Int) (n2 : Int) (n3 : Int) (n4 : Int) (n5 : Int) (n6 : Int) (n7 : Int) (b8 : Bool) (l9 : List (List D)) (s10 : ByteArray) (n11 : Int) (n12 : Int) (n13 : Int) (n14 : Int) (n15 : Int) (n16 : Int) (n17 : Int) (b18 : Bool) (l19 : List (List D)) (s20 : ByteArray) : Rs :=
  if n1 != n11 then
   some ([.one (.b false)], [])
  else
   if n2 != n12 then
    some ([.one (.b false)], [])
   else
    if n3 != n13 then
     some ([.one (.b false)], [])
    else
     if n4 != n14 then
      some ([.one (.b false)], [])
     else
      if n5 != n15 then
       some ([.one (.b false)], [])
      else
       if n6 != n16 then
        some ([.one (.b false)], [])
       else
        if n7 != n17 then
         some ([.one (.b false)], [])
        else
         if !(b8 == b18) then
          some ([.one (.b false)], [])
         else
          chk (okR zr52 zo52 (t52 l9 l19)) <|
          if !(asB (resC (t52 l9 l19) 0 0)) then
           some ([.one (.b false)], [])
          else
           if !(s10.toList == s20.toList) then
            some ([.one (.b false)], [])
           else
            some ([.one (.b true)], [])
def zr67 : List DV := [.one (.b false)]
def zo67 : List (List D) := []
def A67 : List TA := [.agg [.i .i64, .i .i64, .i .i64, .i .i64, .i .i64, .i .i64, .i .i64, .b, .l, .s], .agg [.i .i64, .i .i64, .i .i64, .i .i64, .i .i64, .i .i64, .i .i64, .b, .l, .s]]
def v67 (vs : List Vr) : Rs := t67 (vI vs 0) (vI vs 1) (vI vs 2) (vI vs 3) (vI vs 4) (vI vs 5) (vI vs 6) (vB vs 7) (vL vs 8) (vS vs 9) (vI vs 10) (vI vs 11) (vI vs 12) (vI vs 13) (vI vs 14) (vI vs 15) (vI vs 16) (vB vs 17) (vL vs 18) (vS vs 19)
def g67 (xs : List DV) : Bool × List DV × List (List D) := gOf zr67 zo67 (argsT A67 v67 xs)
def l30o1 (l8 : List (List D)) (l9 : List (List D)) (b10 : Bool) (b12 : Bool) (q1 : Int → Bool → Bool → Rs) (q2 : Int → Bool → SV → Rs) : Nat → Int → SV → SV → Rs
  | 0, _, _, _ => none
  | m + 1, n11, v13, v14 =>
    let y1 := decide (n11 < (l8.length : Int))
    if y1 then
     let y2 := l8.getD n11.toNat []
     chk (decide (0 ≤ n11) && decide (n11 < l8.length) && isRow z83 y2) <|
     let y3 := l9.getD n11.toNat []
     chk (decide (0 ≤ n11) && decide (n11 < l9.length) && isRow z83 y3) <|
     let y4 := t67 (asI (nthD y2 0)) (asI (nthD y2 1)) (asI (nthD y2 2)) (asI (nthD y2 3)) (asI (nthD y2 4)) (asI (nthD y2 5)) (asI (nthD y2 6)) (asB (nthD y2 7)) (asL (nthD y2 8)) (asS (nthD y2 9)) (asI (nthD y3 0)) (asI (nthD y3 1)) (asI (nthD y3 2)) (asI (nthD y3 3)) (asI (nthD y3 4)) (asI (nthD y3 5)) (asI (nthD y3 6)) (asB (nthD y3 7)) (asL (nthD y3 8)) (asS (nthD y3 9))
     chk (okR zr67 zo67 y4) <|
     let y5 := !(asB (resC y4 0 0))
     if y5 then
      q1 n11 y1 y5
     else
      l30o1 l8 l9 b10 b12 q1 q2 m (w64 (n11 + (1 : Int))) (.d (.b y1)) (.d (.b y5))
    else
     q2 n11 y1 (keepV [] v14)
/-- laws.eqMsgS -/
def t30 (l1 : List (List D)) (l2 : List (List D)) : Rs :=
  let y1 := (l1.length : Int) != (l2.length : Int)
  if y1 then
   some ([.one (.b false)], [])
  else
   l30o1 l1 l2 false y1
    (fun (n28 : Int) (b29 : Bool) (b30 : Bool) =>
     some ([.one (.b false)], []))
    (fun (n31 : Int) (b32 : Bool) (v33 : SV) =>
     some ([.one (.b true)], [])) KK (0 : Int) SV.undef SV.undef
def zr30 : List DV := [.one (.b false)]
def zo30 : List (List D) := []
def A30 : List TA := [.one (.l), .one (.l)]
def v30 (vs : List Vr) : Rs := t30 (vL vs 0) (vL vs 1)
def g30 (xs : List DV) : Bool × List DV × List (List D) := gOf zr30 zo30 (argsT A30 v30 xs)
def l68o1 (s7 : ByteArray) (b9 : Bool) (q1 : Int → ByteArray → Bool → Rs) : Nat → Int → ByteArray → SV → Rs
  | 0, _, _, _ => none
  | m + 1, n6, s8, v10 =>
    let y1 := decide (n6 > (0 : Int))
    if y1 then
     let y2 := ([[.i .u8 (IntKind.wrap .u8 (w64 ((48 : Int) + (n6.tmod (10 : Int)))))]] : List (List D))
     chk (isBytes y2) <|
     let y3 := ⟨(bytesD y2).toArray⟩
     chk (decide (y3.size + s8.size ≤ lim)) <|
     l68o1 s7 b9 q1 m (w64 (n6.tdiv (10 : Int))) (y3 ++ s8) (.d (.b y1))
    else
     q1 n6 s8 y1
/-- laws.markText -/
def t68 (n1 : Int) : Rs :=
  let y1 := decide (n1 ≤ (0 : Int))
  if y1 then
   some ([.one (.s (⟨#[109, 48]⟩ : ByteArray))], [])
  else
   l68o1 (⟨#[]⟩ : ByteArray) y1
    (fun (n19 : Int) (s20 : ByteArray) (b21 : Bool) =>
     chk (decide ((⟨#[109]⟩ : ByteArray).size + s20.size ≤ lim)) <|
     some ([.one (.s ((⟨#[109]⟩ : ByteArray) ++ s20))], [])) KK n1 (⟨#[]⟩ : ByteArray) SV.undef
def zr68 : List DV := [.one (.s ⟨#[]⟩)]
def zo68 : List (List D) := []
def A68 : List TA := [.one (.i .i64)]
def v68 (vs : List Vr) : Rs := t68 (vI vs 0)
def g68 (xs : List DV) : Bool × List DV × List (List D) := gOf zr68 zo68 (argsT A68 v68 xs)
def l55o0 (n8 : Int) (q1 : Int → Int → Bool → List (List D) → Rs) : Nat → Int → Int → SV → List (List D) → Rs
  | 0, _, _, _, _ => none
  | m + 1, n7, n9, v10, l11 =>
    let y1 := decide (n9 < (l11.length : Int))
    if y1 then
     chk (decide (0 ≤ n9) && decide (n9 < l11.length)) <|
     chk (decide (1 ≤ 2 ∧ (n9.toNat) < l11.length)) <|
     let y2 := w64 (n7 + (1 : Int))
     let y3 := t68 y2
     chk (okR zr68 zo68 y3) <|
     let y4 := stR l11 (n9.toNat) 0 [.i .i64 n7]
     chk (decide (0 ≤ n9) && decide (n9 < y4.length)) <|
     chk (decide (2 ≤ 2 ∧ (n9.toNat) < y4.length)) <|
     l55o0 n8 q1 m (w64 (y2 + (1 : Int))) (w64 (n9 + (1 : Int))) (.d (.b y1)) (stR y4 (n9.toNat) 1 [.s (asS (resC y3 0 0))])
    else
     q1 n7 n9 y1 l11
/-- laws.markEntryS -/
def t55 (l1 : List (List D)) (n2 : Int) : Rs :=
  l55o0 (0 : Int)
   (fun (n21 : Int) (n22 : Int) (b23 : Bool) (l24 : List (List D)) =>
    some ([.one (.i .i64 n21)], [[.l l24]])) KK n2 (0 : Int) SV.undef l1
def zr55 : List DV := [.one (.i .i64 0)]
def zo55 : List (List D) := [[.l []]]
def A55 : List TA := [.one (.l), .one (.i .i64)]
def v55 (vs : List Vr) : Rs := t55 (vL vs 0) (vI vs 1)
def g55 (xs : List DV) : Bool × List DV × List (List D) := gOf zr55 zo55 (argsT A55 v55 xs)
def l56o0 (n8 : Int) (q1 : Int → Int → Bool → List (List D) → Rs) : Nat → Int → Int → SV → List (List D) → Rs
  | 0, _, _, _, _ => none
  | m + 1, n7, n9, v10, l11 =>
    let y1 := decide (n9 < (l11.length : Int))
    if y1 then
     chk (decide (0 ≤ n9) && decide (n9 < l11.length)) <|
     chk (decide (1 ≤ 1 ∧ (n9.toNat) < l11.length)) <|
     l56o0 n8 q1 m (w64 (n7 + (1 : Int))) (w64 (n9 + (1 : Int))) (.d (.b y1)) (stR l11 (n9.toNat) 0 [.i .i64 n7])
    else
     q1 n7 n9 y1 l11
/-- laws.markIntS -/
def t56 (l1 : List (List D)) (n2 : Int) : Rs :=
  l56o0 (0 : Int)
   (fun (n21 : Int) (n22 : Int) (b23 : Bool) (l24 : List (List D)) =>
    some ([.one (.i .i64 n21)], [[.l l24]])) KK n2 (0 : Int) SV.undef l1
def zr56 : List DV := [.one (.i .i64 0)]
def zo56 : List (List D) := [[.l []]]
def A56 : List TA := [.one (.l), .one (.i .i64)]
def v56 (vs : List Vr) : Rs := t56 (vL vs 0) (vI vs 1)
def g56 (xs : List DV) : Bool × List DV × List (List D) := gOf zr56 zo56 (argsT A56 v56 xs)
/-- laws.markCore -/
def t18 (n1 : Int) (n2 : Int) (n3 : Int) (n4 : Int) (n5 : Int) (n6 : Int) (n7 : Int) (n8 : Int) (l9 : List (List D)) (n10 : Int) (l11 : List (List D)) (l12 : List (List D)) (l13 : List (List D)) (n14 : Int) : Rs :=
  chk (okR zr55 zo55 (t55 l9 n14)) <|
  let y1 := t56 l11 (asI (resC (t55 l9 n14) 0 0))
  chk (okR zr56 zo56 y1) <|
  let y2 := t56 l12 (asI (resC y1 0 0))
  chk (okR zr56 zo56 y2) <|
  let y3 := t56 l13 (asI (resC y2 0 0))
  chk (okR zr56 zo56 y3) <|
  some ([.one (.i .i64 (asI (resC y3 0 0)))], [[.i .i64 n1, .i .i64 n2, .i .i64 n3, .i .i64 n4, .i .i64 n5, .i .i64 n6, .i .i64 n7, .i .i64 n8, .l (asL (outC (t55 l9 n14) 0 0)), .i .i64 n10, .l (asL (outC y1 0 0)), .l (asL (outC y2 0 0)), .l (asL (outC y3 0 0))]])
def zr18 : List DV := [.one (.i .i64 0)]
def zo18 : List (List D) := [[.i .i64 0, .i .i64 0, .i .i64 0, .i .i64 0, .i .i64 0, .i .i64 0, .i .i64 0, .i .i64 0, .l [], .i .i64 0, .l [], .l [], .l []]]
def A18 : List TA := [.agg [.i .i64, .i .i64, .i .i64, .i .i64, .i .i64, .i .i64, .i .i64, .i .i64, .l, .i .i64, .l, .l, .l], .one (.i .i64)]
def v18 (vs : List Vr) : Rs := t18 (vI vs 0) (vI vs 1) (vI vs 2) (vI vs 3) (vI vs 4) (vI vs 5) (vI vs 6) (vI vs 7) (vL vs 8) (vI vs 9) (vL vs 10) (vL vs 11) (vL vs 12) (vI vs 13)
def g18 (xs : List DV) : Bool × List DV × List (List D) := gOf zr18 zo18 (argsT A18 v18 xs)
def l31o0 (n8 : Int) (q1 : Int → Int → Bool → List (List D) → Rs) : Nat → Int → Int → SV → List (List D) → Rs
  | 0, _, _, _, _ => none
  | m + 1, n7, n9, v10, l11 =>
    let y1 := decide (n9 < (l11.length : Int))
    if y1 then
     chk (decide (0 ≤ n9) && decide (n9 < l11.length)) <|
     chk (decide (1 ≤ 10 ∧ (n9.toNat) < l11.length)) <|
     let y2 := stR l11 (n9.toNat) 0 [.i .i64 n7]
     chk (decide (0 ≤ n9) && decide (n9 < y2.length)) <|
     chk (decide (2 ≤ 10 ∧ (n9.toNat) < y2.length)) <|
     let y3 := w64 (n7 + (1 : Int))
     let y4 := stR y2 (n9.toNat) 1 [.i .i64 y3]
     chk (decide (0 ≤ n9) && decide (n9 < y4.length)) <|
     chk (decide (3 ≤ 10 ∧ (n9.toNat) < y4.length)) <|
     let y5 := w64 (y3 + (1 : Int))
     let y6 := stR y4 (n9.toNat) 2 [.i .i64 y5]
     chk (decide (0 ≤ n9) && decide (n9 < y6.length)) <|
     chk (decide (4 ≤ 10 ∧ (n9.toNat) < y6.length)) <|
     let y7 := w64 (y5 + (1 : Int))
     let y8 := stR y6 (n9.toNat) 3 [.i .i64 y7]
     chk (decide (0 ≤ n9) && decide (n9 < y8.length)) <|
     chk (decide (5 ≤ 10 ∧ (n9.toNat) < y8.length)) <|
     let y9 := w64 (y7 + (1 : Int))
     let y10 := stR y8 (n9.toNat) 4 [.i .i64 y9]
     chk (decide (0 ≤ n9) && decide (n9 < y10.length)) <|
     chk (decide (6 ≤ 10 ∧ (n9.toNat) < y10.length)) <|
     let y11 := w64 (y9 + (1 : Int))
     let y12 := stR y10 (n9.toNat) 5 [.i .i64 y11]
     chk (decide (0 ≤ n9) && decide (n9 < y12.length)) <|
     chk (decide (7 ≤ 10 ∧ (n9.toNat) < y12.length)) <|
     let y13 := w64 (y11 + (1 : Int))
     let y14 := stR y12 (n9.toNat) 6 [.i .i64 y13]
     chk (decide (0 ≤ n9) && decide (n9 < y14.length)) <|
     chk (decide (8 ≤ 10 ∧ (n9.toNat) < y14.length)) <|
     let y15 := w64 (y13 + (1 : Int))
     let y16 := stR y14 (n9.toNat) 7 [.b ((y15.tmod (3 : Int)) == (0 : Int))]
     chk (decide (0 ≤ n9) && decide (n9 < y16.length)) <|
     let y17 := y16.getD (n9.toNat) []
     let y18 := asL (nthD y17 8)
     let y19 := t55 y18 (w64 (y15 + (1 : Int)))
     chk (okR zr55 zo55 y19 && (decide (8 + 1 ≤ y17.length) && isF [.l []] 8 y17 && fstSz 2 y18)) <|
     let y20 := asI (resC y19 0 0)
     let y21 := t68 y20
     chk (okR zr68 zo68 y21) <|
     let y22 := stR y16 (n9.toNat) 8 [.l (asL (outC y19 0 0))]
     chk (decide (0 ≤ n9) && decide (n9 < y22.length)) <|
     chk (decide (10 ≤ 10 ∧ (n9.toNat) < y22.length)) <|
     l31o0 n8 q1 m (w64 (y20 + (1 : Int))) (w64 (n9 + (1 : Int))) (.d (.b y1)) (stR y22 (n9.toNat) 9 [.s (asS (resC y21 0 0))])
    else
     q1 n7 n9 y1 l11
/-- laws.markMsgS -/
def t31 (l1 : List (List D)) (n2 : Int) : Rs :=
  l31o0 (0 : Int)
   (fun (n21 : Int) (n22 : Int) (b23 : Bool) (l24 : List (List D)) =>
    some ([.one (.i .i64 n21)], [[.l l24]])) KK n2 (0 : Int) SV.undef l1
def zr31 : List DV := [.one (.i .i64 0)]
def zo31 : List (List D) := [[.l []]]
def A31 : List TA := [.one (.l), .one (.i .i64)]
def v31 (vs : List Vr) : Rs := t31 (vL vs 0) (vI vs 1)
def g31 (xs : List DV) : Bool × List DV × List (List D) := gOf zr31 zo31 (argsT A31 v31 xs)
def l57o0 (l7 : List (List D)) (n9 : Int) (q1 : Int → Int → Bool → Bool → SV → Rs) (q2 : Int → Int → Bool → Bool → Bool → Rs) (q3 : Int → Int → Bool → SV → SV → Rs) : Nat → Int → Int → SV → SV → SV → Rs
  | 0, _, _, _, _, _ => none
  | m + 1, n8, n10, v11, v12, v13 =>
    let y1 := decide (n10 < (l7.length : Int))
    if y1 then
     let y2 := l7.getD n10.toNat []
     chk (decide (0 ≤ n10) && decide (n10 < l7.length) && isRow z92 y2) <|
     let y3 := (asI (nthD y2 0)) != n8
     if y3 then
      q1 n8 n10 y1 y3 v13
     else
      let y4 := l7.getD n10.toNat []
      chk (decide (0 ≤ n10) && decide (n10 < l7.length) && isRow z92 y4) <|
      let y5 := w64 (n8 + (1 : Int))
      let y6 := t68 y5
      chk (okR zr68 zo68 y6) <|
      let y7 := !((asS (nthD y4 1)).toList == (asS (resC y6 0 0)).toList)
      if y7 then
       q2 y5 n10 y1 y3 y7
      else
       l57o0 l7 n9 q1 q2 q3 m (w64 (y5 + (1 : Int))) (w64 (n10 + (1 : Int))) (.d (.b y1)) (.d (.b y3)) (.d (.b y7))
    else
     q3 n8 n10 y1 (keepV [] v12) (keepV [] v13)
/-- laws.heldEntryS -/
def t57 (l1 : List (List D)) (n2 : Int) : Rs :=
  l57o0 l1 (0 : Int)
   (fun (n36 : Int) (n37 : Int) (b38 : Bool) (b39 : Bool) (v40 : SV) =>
    some ([.one (.i .i64 (-1 : Int))], []))
   (fun (n41 : Int) (n42 : Int) (b43 : Bool) (b44 : Bool) (b45 : Bool) =>
    some ([.one (.i .i64 (-1 : Int))], []))
   (fun (n46 : Int) (n47 : Int) (b48 : Bool) (v49 : SV) (v50 : SV) =>
    some ([.one (.i .i64 n46)], [])) KK n2 (0 : Int) SV.undef SV.undef SV.undef
def zr57 : List DV := [.one (.i .i64 0)]
def zo57 : List (List D) := []
def A57 : List TA := [.one (.l), .one (.i .i64)]
def v57 (vs : List Vr) : Rs := t57 (vL vs 0) (vI vs 1)
def g57 (xs : List DV) : Bool × List DV × List (List D) := gOf zr57 zo57 (argsT A57 v57 xs)
def l60o0 (l7 : List (List D)) (n9 : Int) (q1 : Int → Int → Bool → Bool → Rs) (q2 : Int → Int → Bool → SV → Rs) : Nat → Int → Int → SV → SV → Rs
  | 0, _, _, _, _ => none
  | m + 1, n8, n10, v11, v12 =>
    let y1 := decide (n10 < (l7.length : Int))
    if y1 then
     let y2 := l7.getD n10.toNat []
     chk (decide (0 ≤ n10) && decide (n10 < l7.length) && isRow z3 y2) <|
     let y3 := (asI (nthD y2 0)) != n8
     if y3 then
      q1 n8 n10 y1 y3
     else
      l60o0 l7 n9 q1 q2 m (w64 (n8 + (1 : Int))) (w64 (n10 + (1 : Int))) (.d (.b y1)) (.d (.b y3))
    else
     q2 n8 n10 y1 (keepV [] v12)
/-- laws.heldIntS -/
def t60 (l1 : List (List D)) (n2 : Int) : Rs :=
  l60o0 l1 (0 : Int)
   (fun (n27 : Int) (n28 : Int) (b29 : Bool) (b30 : Bool) =>
    some ([.one (.i .i64 (-1 : Int))], []))
   (fun (n31 : Int) (n32 : Int) (b33 : Bool) (v34 : SV) =>
    some ([.one (.i .i64 n31)], [])) KK n2 (0 : Int) SV.undef SV.undef
def zr60 : List DV := [.one (.i .i64 0)]
def zo60 : List (List D) := []
def A60 : List TA := [.one (.l), .one (.i .i64)]
def v60 (vs : List Vr) : Rs := t60 (vL vs 0) (vI vs 1)
def g60 (xs : List DV) : Bool × List DV × List (List D) := gOf zr60 zo60 (argsT A60 v60 xs)
/-- laws.heldCore -/
def t25 (n1 : Int) (n2 : Int) (n3 : Int) (n4 : Int) (n5 : Int) (n6 : Int) (n7 : Int) (n8 : Int) (l9 : List (List D)) (n10 : Int) (l11 : List (List D)) (l12 : List (List D)) (l13 : List (List D)) (n14 : Int) : Rs :=
  chk (okR zr57 zo57 (t57 l9 n14)) <|
  let y1 := asI (resC (t57 l9 n14) 0 0)
  if decide (y1 < (0 : Int)) then
   some ([.one (.i .i64 (-1 : Int))], [])
  else
   let y2 := t60 l11 y1
   chk (okR zr60 zo60 y2) <|
   let y3 := asI (resC y2 0 0)
   if decide (y3 < (0 : Int)) then
    some ([.one (.i .i64 (-1 : Int))], [])
   else
    let y4 := t60 l12 y3
    chk (okR zr60 zo60 y4) <|
    let y5 := asI (resC y4 0 0)
    if decide (y5 < (0 : Int)) then
     some ([.one (.i .i64 (-1 : Int))], [])
    else
     let y6 := t60 l13 y5
     chk (okR zr60 zo60 y6) <|
     let y7 := asI (resC y6 0 0)
     if decide (y7 < (0 : Int)) then
      some ([.one (.i .i64 (-1 : Int))], [])
     else
      some ([.one (.i .i64 y7)], [])
def zr25 : List DV := [.one (.i .i64 0)]
def zo25 : List (List D) := []
def A25 : List TA := [.agg [.i .i64, .i .i64, .i .i64, .i .i64, .i .i64, .i .i64, .i .i64, .i .i64, .l, .i .i64, .l, .l, .l], .one (.i .i64)]
def v25 (vs : List Vr) : Rs := t25 (vI vs 0) (vI vs 1) (vI vs 2) (vI vs 3) (vI vs 4) (vI vs 5) (vI vs 6) (vI vs 7) (vL vs 8) (vI vs 9) (vL vs 10) (vL vs 11) (vL vs 12) (vI vs 13)
def g25 (xs : List DV) : Bool × List DV × List (List D) := gOf zr25 zo25 (argsT A25 v25 xs)
def l32o0 (l7 : List (List D)) (n9 : Int) (q1 : Int → Int → Bool → Bool → SV → SV → SV → SV → SV → SV → SV → SV → SV → Rs) (q2 : Int → Int → Bool → Bool → Bool → SV → SV → SV → SV → SV → SV → SV → SV → Rs) (q3 : Int → Int → Bool → Bool → Bool → Bool → SV → SV → SV → SV → SV → SV → SV → Rs) (q4 : Int → Int → Bool → Bool → Bool → Bool → Bool → SV → SV → SV → SV → SV → SV → Rs) (q5 : Int → Int → Bool → Bool → Bool → Bool → Bool → Bool → SV → SV → SV → SV → SV → Rs) (q6 : Int → Int → Bool → Bool → Bool → Bool → Bool → Bool → Bool → SV → SV → SV → SV → Rs) (q7 : Int → Int → Bool → Bool → Bool → Bool → Bool → Bool → Bool → Bool → SV → SV → SV → Rs) (q8 : Int → Int → Bool → Bool → Bool → Bool → Bool → Bool → Bool → Bool → Bool → SV → SV → Rs) (q9 : Int → Int → Bool → Bool → Bool → Bool → Bool → Bool → Bool → Bool → Bool → Bool → SV → Rs) (q10 : Int → Int → Bool → Bool → Bool → Bool → Bool → Bool → Bool → Bool → Bool → Bool → Bool → Rs) (q11 : Int → Int → Bool → SV → SV → SV → SV → SV → SV → SV → SV → SV → SV → Rs) : Nat → Int → Int → SV → SV → SV → SV → SV → SV → SV → SV → SV → SV → SV → Rs
  | 0, _, _, _, _, _, _, _, _, _, _, _, _, _ => none
  | m + 1, n8, n10, v11, v12, v13, v14, v15, v16, v17, v18, v19, v20, v21 =>
    let y1 := decide (n10 < (l7.length : Int))
    if y1 then
     let y2 := l7.getD n10.toNat []
     chk (decide (0 ≤ n10) && decide (n10 < l7.length) && isRow z83 y2) <|
     let y3 := (asI (nthD y2 0)) != n8
     if y3 then
      q1 n8 n10 y1 y3 v13 v14 v15 v16 v17 v18 v19 v20 v21
     else
      let y4 := l7.getD n10.toNat []
      chk (decide (0 ≤ n10) && decide (n10 < l7.length) && isRow z83 y4) <|
      let y5 := w64 (n8 + (1 : Int))
      let y6 := (asI (nthD y4 1)) != y5
      if y6 then
       q2 y5 n10 y1 y3 y6 v14 v15 v16 v17 v18 v19 v20 v21
      else
       let y7 := l7.getD n10.toNat []
       chk (decide (0 ≤ n10) && decide (n10 < l7.length) && isRow z83 y7) <|
       let y8 := w64 (y5 + (1 : Int))
       let y9 := (asI (nthD y7 2)) != y8
       if y9 then
        q3 y8 n10 y1 y3 y6 y9 v15 v16 v17 v18 v19 v20 v21
       else
        let y10 := l7.getD n10.toNat []
        chk (decide (0 ≤ n10) && decide (n10 < l7.length) && isRow z83 y10) <|
        let y11 := w64 (y8 + (1 : Int))
        let y12 := (asI (nthD y10 3)) != y11
        if y12 then
         q4 y11 n10 y1 y3 y6 y9 y12 v16 v17 v18 v19 v20 v21
        else
         let y13 := l7.getD n10.toNat []
         chk (decide (0 ≤ n10) && decide (n10 < l7.length) && isRow z83 y13) <|
         let y14 := w64 (y11 + (1 : Int))
         let y15 := (asI (nthD y13 4)) != y14
         if y15 then
          q5 y14 n10 y1 y3 y6 y9 y12 y15 v17 v18 v19 v20 v21
         else
          let y16 := l7.getD n10.toNat []
          chk (decide (0 ≤ n10) && decide (n10 < l7.length) && isRow z83 y16) <|
          let y17 := w64 (y14 + (1 : Int))
          let y18 := (asI (nthD y16 5)) != y17
          if y18 then
           q6 y17 n10 y1 y3 y6 y9 y12 y15 y18 v18 v19 v20 v21
          else
           let y19 := l7.getD n10.toNat []
           chk (decide (0 ≤ n10) && decide (n10 < l7.length) && isRow z83 y19) <|
           let y20 := w64 (y17 + (1 : Int))
           let y21 := (asI (nthD y19 6)) != y20
           if y21 then
            q7 y20 n10 y1 y3 y6 y9 y12 y15 y18 y21 v19 v20 v21
           else
            let y22 := l7.getD n10.toNat []
            chk (decide (0 ≤ n10) && decide (n10 < l7.length) && isRow z83 y22) <|
            let y23 := w64 (y20 + (1 : Int))
            let y24 := !((asB (nthD y22 7)) == ((y23.tmod (3 : Int)) == (0 : Int)))
            if y24 then
             q8 y23 n10 y1 y3 y6 y9 y12 y15 y18 y21 y24 v20 v21
            else
             let y25 := l7.getD n10.toNat []
             chk (decide (0 ≤ n10) && decide (n10 < l7.length) && isRow z83 y25) <|
             let y26 := t57 (asL (nthD y25 8)) (w64 (y23 + (1 : Int)))
             chk (okR zr57 zo57 y26) <|
             let y27 := asI (resC y26 0 0)
             let y28 := decide (y27 < (0 : Int))
             if y28 then
              q9 y27 n10 y1 y3 y6 y9 y12 y15 y18 y21 y24 y28 v21
             else
              let y29 := l7.getD n10.toNat []
              chk (decide (0 ≤ n10) && decide (n10 < l7.length) && isRow z83 y29) <|
              let y30 := t68 y27
              chk (okR zr68 zo68 y30) <|
              let y31 := !((asS (nthD y29 9)).toList == (asS (resC y30 0 0)).toList)
              if y31 then
               q10 y27 n10 y1 y3 y6 y9 y12 y15 y18 y21 y24 y28 y31
              else
               l32o0 l7 n9 q1 q2 q3 q4 q5 q6 q7 q8 q9 q10 q11 m (w64 (y27 + (1 : Int))) (w64 (n10 + (1 : Int))) (.d (.b y1)) (.d (.b y3)) (.d (.b y6)) (.d (.b y9)) (.d (.b y12)) (.d (.b y15)) (.d (.b y18)) (.d (.b y21)) (.d (.b y24)) (.d (.b y28)) (.d (.b y31))
    else
     q11 n8 n10 y1 (keepV [] v12) (keepV [] v13) (keepV [] v14) (keepV [] v15) (keepV [] v16) (keepV [] v17) (keepV [] v18) (keepV [] v19) (keepV [] v20) (keepV [] v21)
/-- laws.heldMsgS -/
def t32 (l1 : List (List D)) (n2 : Int) : Rs :=
  l32o0 l1 (0 : Int)
   (fun (n180 : Int) (n181 : Int) (b182 : Bool) (b183 : Bool) (v184 : SV) (v185 : SV) (v186 : SV) (v187 : SV) (v188 : SV) (v189 : SV) (v190 : SV) (v191 : SV) (v192 : SV) =>
    some ([.one (.i .i64 (-1 : Int))], []))
   (fun (n193 : Int) (n194 : Int) (b195 : Bool) (b196 : Bool) (b197 : Bool) (v198 : SV) (v199 : SV) (v200 : SV) (v201 : SV) (v202 : SV) (v203 : SV) (v204 : SV) (v205 : SV) =>
    some ([.one (.i .i64 (-1 : Int))], []))
   (fun (n206 : Int) (n207 : Int) (b208 : Bool) (b209 : Bool) (b210 : Bool) (b211 : Bool) (v212 : SV) (v213 : SV) (v214 : SV) (v215 : SV) (v216 : SV) (v217 : SV) (v218 : SV) =>
    some ([.one (.i .i64 (-1 : Int))], []))
   (fun (n219 : Int) (n220 : Int) (b221 : Bool) (b222 : Bool) (b223 : Bool) (b224 : Bool) (b225 : Bool) (v226 : SV) (v227 : SV) (v228 : SV) (v229 : SV) (v230 : SV) (v231 : SV) =>
    some ([.one (.i .i64 (-1 : Int))], []))
   (fun (n232 : Int) (n233 : Int) (b234 : Bool) (b235 : Bool) (b236 : Bool) (b237 : Bool) (b238 : Bool) (b239 : Bool) (v240 : SV) (v241 : SV) (v242 : SV) (v243 : SV) (v244 : SV) =>
    some ([.one (.i .i64 (-1 : Int))], []))
   (fun (n245 : Int) (n246 : Int) (b247 : Bool) (b248 : Bool) (b249 : Bool) (b250 : Bool) (b251 : Bool) (b252 : Bool) (b253 : Bool) (v254 : SV) (v255 : SV) (v256 : SV) (v257 : SV) =>
    some ([.one (.i .i64 (-1 : Int))], []))
   (fun (n258 : Int) (n259 : Int) (b260 : Bool) (b261 : Bool) (b262 : Bool) (b263 : Bool) (b264 : Bool) (b265 : Bool) (b266 : Bool) (b267 : Bool) (v268 : SV) (v269 : SV) (v270 : SV) =>
    some ([.one (.i .i64 (-1 : Int))], []))
   (fun (n271 : Int) (n272 : Int) (b273 : Bool) (b274 : Bool) (b275 : Bool) (b276 : Bool) (b277 : Bool) (b278 : Bool) (b279 : Bool) (b280 : Bool) (b281 : Bool) (v282 : SV) (v283 : SV) =>
    some ([.one (.i .i64 (-1 : Int))], []))
   (fun (n284 : Int) (n285 : Int) (b286 : Bool) (b287 : Bool) (b288 : Bool) (b289 : Bool) (b290 : Bool) (b291 : Bool) (b292 : Bool) (b293 : Bool) (b294 : Bool) (b295 : Bool) (v296 : SV) =>
    some ([.one (.i .i64 (-1 : Int))], []))
   (fun (n297 : Int) (n298 : Int) (b299 : Bool) (b300 : Bool) (b301 : Bool) (b302 : Bool) (b303 : Bool) (b304 : Bool) (b305 : Bool) (b306 : Bool) (b307 : Bool) (b308 : Bool) (b309 : Bool) =>
    some ([.one (.i .i64 (-1 : Int))], []))
   (fun (n310 : Int) (n311 : Int) (b312 : Bool) (v313 : SV) (v314 : SV) (v315 : SV) (v316 : SV) (v317 : SV) (v318 : SV) (v319 : SV) (v320 : SV) (v321 : SV) (v322 : SV) =>
    some ([.one (.i .i64 n310)], [])) KK n2 (0 : Int) SV.undef SV.undef SV.undef SV.undef SV.undef SV.undef SV.undef SV.undef SV.undef SV.undef SV.undef
def zr32 : List DV := [.one (.i .i64 0)]
def zo32 : List (List D) := []
def A32 : List TA := [.one (.l), .one (.i .i64)]
def v32 (vs : List Vr) : Rs := t32 (vL vs 0) (vI vs 1)
def g32 (xs : List DV) : Bool × List DV × List (List D) := gOf zr32 zo32 (argsT A32 v32 xs)
/-- laws.FnExactElect -/
def t9 (n1 : Int) (n2 : Int) (n3 : Int) (n4 : Int) (n5 : Int) (n6 : Int) (n7 : Int) (n8 : Int) (l9 : List (List D)) (n10 : Int) (l11 : List (List D)) (l12 : List (List D)) (l13 : List (List D)) : Rs :=
  let y1 := t10 n1 n2 n3 n4 n5 n6 n7 n8 l9 n10 l11 l12 l13 (1048576 : Int)
  chk (okR zr10 zo10 y1) <|
  if decide ((asI (resC y1 0 0)) < (0 : Int)) then
   some ([.one (.b true)], [])
  else
   let y2 := t12 n1 n2 n3 n4 n5 n6 n7 n8 l9 n10 l11 l12 l13
   chk (okR zr12 zo12 y2) <|
   let y3 := t35 (asI (resC y2 0 0)) (asI (resC y2 0 1)) (asI (resC y2 0 2)) (asI (resC y2 0 3)) (asI (resC y2 0 4)) (asI (resC y2 0 5)) (asI (resC y2 0 6)) (asI (resC y2 0 7)) (asL (resC y2 0 8)) (asI (resC y2 0 9)) (asL (resC y2 0 10)) (asL (resC y2 0 11)) (asL (resC y2 0 12))
   chk (okR zr35 zo35 y3) <|
   let y4 := t12 n1 n2 n3 n4 n5 n6 n7 n8 l9 n10 l11 l12 l13
   chk (okR zr12 zo12 y4) <|
   let y5 := asI (resC y4 0 0)
   let y6 := asI (resC y4 0 1)
   let y7 := asI (resC y4 0 2)
   let y8 := asI (resC y4 0 3)
   let y9 := asI (resC y4 0 4)
   let y10 := asI (resC y4 0 5)
   let y11 := asI (resC y4 0 6)
   let y12 := asI (resC y4 0 7)
   let y13 := asL (resC y4 0 8)
   let y14 := asI (resC y4 0 9)
   let y15 := asL (resC y4 0 10)
   let y16 := asL (resC y4 0 11)
   let y17 := asL (resC y4 0 12)
   let y18 := t36 y5 y6 y7 y8 y9 y10 y11 y12 y13 y14 y15 y16 y17
   chk (okR zr36 zo36 y18) <|
   let y19 := asI (resC y18 0 0)
   let y20 := asI (resC y18 0 1)
   let y21 := asI (resC y18 0 2)
   let y22 := asI (resC y18 0 3)
   let y23 := asI (resC y18 0 4)
   let y24 := asI (resC y18 0 5)
   let y25 := asI (resC y18 0 6)
   let y26 := asI (resC y18 0 7)
   let y27 := asL (resC y18 0 8)
   let y28 := asI (resC y18 0 9)
   let y29 := asL (resC y18 0 10)
   let y30 := asL (resC y18 0 11)
   let y31 := asL (resC y18 0 12)
   let y32 := asI (resC y3 0 0)
   let y33 := asI (resC y3 0 1)
   let y34 := asI (resC y3 0 2)
   let y35 := asI (resC y3 0 3)
   let y36 := asI (resC y3 0 4)
   let y37 := asI (resC y3 0 5)
   let y38 := asI (resC y3 0 6)
   let y39 := asI (resC y3 0 7)
   let y40 := asL (resC y3 0 8)
   let y41 := asI (resC y3 0 9)
   let y42 := asL (resC y3 0 10)
   let y43 := asL (resC y3 0 11)
   let y44 := asL (resC y3 0 12)
   let y45 := t14 y19 y20 y21 y22 y23 y24 y25 y26 y27 y28 y29 y30 y31 y32 y33 y34 y35 y36 y37 y38 y39 y40 y41 y42 y43 y44
   chk (okR zr14 zo14 y45) <|
   let y46 := asL (resC y18 1 0)
   let y47 := asL (resC y3 1 0)
   let y48 := t30 y46 y47
   let y49 := !(asB (resC y45 0 0))
   chk ((okR zr30 zo30 y48) || !(!y49)) <|
   if y49 || (!(asB (resC y48 0 0))) then
    some ([.one (.b false)], [])
   else
    let y50 := t12 n1 n2 n3 n4 n5 n6 n7 n8 l9 n10 l11 l12 l13
    chk (okR zr12 zo12 y50) <|
    let y51 := t14 y5 y6 y7 y8 y9 y10 y11 y12 y13 y14 y15 y16 y17 (asI (resC y50 0 0)) (asI (resC y50 0 1)) (asI (resC y50 0 2)) (asI (resC y50 0 3)) (asI (resC y50 0 4)) (asI (resC y50 0 5)) (asI (resC y50 0 6)) (asI (resC y50 0 7)) (asL (resC y50 0 8)) (asI (resC y50 0 9)) (asL (resC y50 0 10)) (asL (resC y50 0 11)) (asL (resC y50 0 12))
    chk (okR zr14 zo14 y51) <|
    if !(asB (resC y51 0 0)) then
     some ([.one (.b false)], [])
    else
     let y52 := t18 y5 y6 y7 y8 y9 y10 y11 y12 y13 y14 y15 y16 y17 (1 : Int)
     chk (okR zr18 zo18 y52) <|
     let y53 := t14 y19 y20 y21 y22 y23 y24 y25 y26 y27 y28 y29 y30 y31 y32 y33 y34 y35 y36 y37 y38 y39 y40 y41 y42 y43 y44
     let y54 := decide ((asI (resC y52 0 0)) < (0 : Int))
     chk ((okR zr14 zo14 y53) || !(!y54)) <|
     let y55 := t30 y46 y47
     let y56 := y54 || (!(asB (resC y53 0 0)))
     chk ((okR zr30 zo30 y55) || !(!y56)) <|
     if y56 || (!(asB (resC y55 0 0))) then
      some ([.one (.b false)], [])
     else
      let y57 := t18 y19 y20 y21 y22 y23 y24 y25 y26 y27 y28 y29 y30 y31 (1 : Int)
      chk (okR zr18 zo18 y57) <|
      let y58 := t31 y46 (asI (resC y57 0 0))
      chk (okR zr31 zo31 y58) <|
      let y59 := asL (outC y57 0 8)
      let y60 := asL (outC y57 0 10)
      let y61 := asL (outC y57 0 11)
      let y62 := asL (outC y57 0 12)
      let y63 := t25 y19 y20 y21 y22 y23 y24 y25 y26 y59 y28 y60 y61 y62 (1 : Int)
      chk (okR zr25 zo25 y63) <|
      let y64 := asI (resC y63 0 0)
      if decide (y64 < (0 : Int)) then
       some ([.one (.b false)], [])
      else
       let y65 := asL (outC y58 0 0)
       let y66 := t32 y65 y64
       chk (okR zr32 zo32 y66) <|
       let y67 := asI (resC y66 0 0)
       if decide (y67 < (0 : Int)) then
        some ([.one (.b false)], [])
       else
        let y68 := asI (resC y58 0 0)
        if y67 != y68 then
         some ([.one (.b false)], [])
        else
         let y69 := t12 n1 n2 n3 n4 n5 n6 n7 n8 l9 n10 l11 l12 l13
         chk (okR zr12 zo12 y69) <|
         let y70 := t36 (asI (resC y69 0 0)) (asI (resC y69 0 1)) (asI (resC y69 0 2)) (asI (resC y69 0 3)) (asI (resC y69 0 4)) (asI (resC y69 0 5)) (asI (resC y69 0 6)) (asI (resC y69 0 7)) (asL (resC y69 0 8)) (asI (resC y69 0 9)) (asL (resC y69 0 10)) (asL (resC y69 0 11)) (asL (resC y69 0 12))
         chk (okR zr36 zo36 y70) <|
         let y71 := t14 (asI (resC y70 0 0)) (asI (resC y70 0 1)) (asI (resC y70 0 2)) (asI (resC y70 0 3)) (asI (resC y70 0 4)) (asI (resC y70 0 5)) (asI (resC y70 0 6)) (asI (resC y70 0 7)) (asL (resC y70 0 8)) (asI (resC y70 0 9)) (asL (resC y70 0 10)) (asL (resC y70 0 11)) (asL (resC y70 0 12)) y32 y33 y34 y35 y36 y37 y38 y39 y40 y41 y42 y43 y44
         chk (okR zr14 zo14 y71) <|
         let y72 := t30 (asL (resC y70 1 0)) y47
         let y73 := !(asB (resC y71 0 0))
         chk ((okR zr30 zo30 y72) || !(!y73)) <|
         if y73 || (!(asB (resC y72 0 0))) then
          some ([.one (.b false)], [])
         else
          let y74 := t25 y19 y20 y21 y22 y23 y24 y25 y26 y59 y28 y60 y61 y62 (1 : Int)
          chk (okR zr25 zo25 y74) <|
          let y75 := asI (resC y74 0 0)
          if decide (y75 < (0 : Int)) then
           some ([.one (.b false)], [])
          else
           let y76 := t32 y65 y75
           chk (okR zr32 zo32 y76) <|
           let y77 := asI (resC y76 0 0)
           if decide (y77 < (0 : Int)) then
            some ([.one (.b false)], [])
           else
            if y77 != y68 then
             some ([.one (.b false)], [])
            else
             some ([.one (.b true)], [])
def zr9 : List DV := [.one (.b false)]
def zo9 : List (List D) := []
def A9 : List TA := [.agg [.i .i64, .i .i64, .i .i64, .i .i64, .i .i64, .i .i64, .i .i64, .i .i64, .l, .i .i64, .l, .l, .l]]
def v9 (vs : List Vr) : Rs := t9 (vI vs 0) (vI vs 1) (vI vs 2) (vI vs 3) (vI vs 4) (vI vs 5) (vI vs 6) (vI vs 7) (vL vs 8) (vI vs 9) (vL vs 10) (vL vs 11) (vL vs 12)
def g9 (xs : List DV) : Bool × List DV × List (List D) := gOf zr9 zo9 (argsT A9 v9 xs)
end
end Go.Den.L9
