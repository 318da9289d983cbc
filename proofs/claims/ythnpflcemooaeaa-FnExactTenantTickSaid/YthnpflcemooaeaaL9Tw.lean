/- What the functions come to, as plain Lean. Printed by tw.py. -/
import Derived.Test.YthnpflcemooaeaaDm8
set_option linter.unusedVariables false
namespace Go.Den.L9
open Go
noncomputable section
/-- The rounds that a loop is given: 2 ^ 64; so laid that nothing unfolds it. -/
noncomputable def KK : Nat := Classical.choose (⟨2 ^ 64, rfl⟩ : ∃ n : Nat, n = 2 ^ 64)
def w64 (x : Int) : Int := IntKind.wrap .i64 x
def chk (b : Bool) (x : Rs) : Rs := if b then x else none
def bitAnd (k : IntKind) (a b : Int) : Int := k.wrap (BitVec.ofInt k.bits a &&& BitVec.ofInt k.bits b).toNat
def bitOr (k : IntKind) (a b : Int) : Int := k.wrap (BitVec.ofInt k.bits a ||| BitVec.ofInt k.bits b).toNat
def bitXor (k : IntKind) (a b : Int) : Int := k.wrap (BitVec.ofInt k.bits a ^^^ BitVec.ofInt k.bits b).toNat
def stR (xs : List (List D)) (i off : Nat) (ys : List D) : List (List D) := xs.modify i fun r => r.take off ++ ys ++ r.drop (off + ys.length)
def z3 : List D := [.i .i64 0]
def z4 : List D := [.b false]
def z64 : List D := [.i .i64 0, .i .i64 0, .i .i64 0, .i .i64 0, .i .i64 0, .s ⟨#[]⟩, .l [], .i .i64 0, .i .i64 0]
def z81 : List D := [.i .i64 0, .i .i64 0, .i .i64 0, .i .i64 0, .s ⟨#[]⟩]
def z90 : List D := [.i .i64 0, .i .i64 0, .i .i64 0, .i .i64 0, .i .i64 0]
def z114 : List D := [.i .i64 0, .i .i64 0, .i .i64 0, .i .i64 0, .s ⟨#[]⟩]
def z121 : List D := [.i .i64 0, .i .i64 0, .i .i64 0, .i .i64 0, .i .i64 0]
def z129 : List D := [.s ⟨#[]⟩, .i .i64 0]
def z142 : List D := [.i .i64 0, .i .i64 0, .i .i64 0, .i .i64 0, .i .i64 0, .s ⟨#[]⟩, .l [], .i .i64 0, .i .i64 0]
def z160 : List D := [.s ⟨#[]⟩, .i .i64 0]
/-- laws.szDirent -/
def t144 (s1 : ByteArray) (n2 : Int) (n3 : Int) : Rs :=
  let y1 := w64 (n3 - (s1.size : Int))
  if decide (y1 < (0 : Int)) then
   some ([.one (.i .i64 (-1 : Int))], [])
  else
   some ([.one (.i .i64 y1)], [])
def zr144 : List DV := [.one (.i .i64 0)]
def zo144 : List (List D) := []
def A144 : List TA := [.agg [.s, .i .i64], .one (.i .i64)]
def v144 (vs : List Vr) : Rs := t144 (vS vs 0) (vI vs 1) (vI vs 2)
def g144 (xs : List DV) : Bool × List DV × List (List D) := gOf zr144 zo144 (argsT A144 v144 xs)
abbrev Y144 := ByteArray → Int → Int → Rs
def la138o1 (t144 : Y144) (l8 : List (List D)) (n10 : Int) (b12 : Bool) (q1 : Int → Int → Bool → Bool → Rs) (q2 : Int → Int → Bool → SV → Rs) : Nat → Int → Int → SV → SV → Rs
  | 0, _, _, _, _ => none
  | m + 1, n9, n11, v13, v14 =>
    let y1 := decide (n11 < (l8.length : Int))
    if y1 then
     let y2 := l8.getD n11.toNat []
     chk (decide (0 ≤ n11) && decide (n11 < l8.length) && isRow z160 y2) <|
     let y3 := t144 (asS (nthD y2 0)) (asI (nthD y2 1)) n9
     chk (okR zr144 zo144 y3) <|
     let y4 := asI (resC y3 0 0)
     let y5 := decide (y4 < (0 : Int))
     if y5 then
      q1 y4 n11 y1 y5
     else
      la138o1 t144 l8 n10 b12 q1 q2 m y4 (w64 (n11 + (1 : Int))) (.d (.b y1)) (.d (.b y5))
    else
     q2 n9 n11 y1 (keepV [] v14)
/-- laws.szDirentS -/
def ta138 (t144 : Y144) (l1 : List (List D)) (n2 : Int) : Rs :=
  let y1 := w64 (n2 - (l1.length : Int))
  let y2 := decide (y1 < (0 : Int))
  if y2 then
   some ([.one (.i .i64 (-1 : Int))], [])
  else
   la138o1 t144 l1 (0 : Int) y2
    (fun (n30 : Int) (n31 : Int) (b32 : Bool) (b33 : Bool) =>
     some ([.one (.i .i64 (-1 : Int))], []))
    (fun (n34 : Int) (n35 : Int) (b36 : Bool) (v37 : SV) =>
     some ([.one (.i .i64 n34)], [])) KK y1 (0 : Int) SV.undef SV.undef
def t138 : List (List D) → Int → Rs := ta138 t144
def zr138 : List DV := [.one (.i .i64 0)]
def zo138 : List (List D) := []
def A138 : List TA := [.one (.l), .one (.i .i64)]
def v138 (vs : List Vr) : Rs := t138 (vL vs 0) (vI vs 1)
def g138 (xs : List DV) : Bool × List DV × List (List D) := gOf zr138 zo138 (argsT A138 v138 xs)
abbrev Y138 := List (List D) → Int → Rs
/-- laws.szInode -/
def ta122 (t138 : Y138) (n1 : Int) (n2 : Int) (n3 : Int) (n4 : Int) (n5 : Int) (s6 : ByteArray) (l7 : List (List D)) (n8 : Int) (n9 : Int) (n10 : Int) : Rs :=
  let y1 := w64 (n10 - (s6.size : Int))
  if decide (y1 < (0 : Int)) then
   some ([.one (.i .i64 (-1 : Int))], [])
  else
   let y2 := t138 l7 y1
   chk (okR zr138 zo138 y2) <|
   let y3 := asI (resC y2 0 0)
   if decide (y3 < (0 : Int)) then
    some ([.one (.i .i64 (-1 : Int))], [])
   else
    some ([.one (.i .i64 y3)], [])
def t122 : Int → Int → Int → Int → Int → ByteArray → List (List D) → Int → Int → Int → Rs := ta122 t138
def zr122 : List DV := [.one (.i .i64 0)]
def zo122 : List (List D) := []
def A122 : List TA := [.agg [.i .i64, .i .i64, .i .i64, .i .i64, .i .i64, .s, .l, .i .i64, .i .i64], .one (.i .i64)]
def v122 (vs : List Vr) : Rs := t122 (vI vs 0) (vI vs 1) (vI vs 2) (vI vs 3) (vI vs 4) (vS vs 5) (vL vs 6) (vI vs 7) (vI vs 8) (vI vs 9)
def g122 (xs : List DV) : Bool × List DV × List (List D) := gOf zr122 zo122 (argsT A122 v122 xs)
abbrev Y122 := Int → Int → Int → Int → Int → ByteArray → List (List D) → Int → Int → Int → Rs
def la89o1 (t122 : Y122) (l8 : List (List D)) (n10 : Int) (b12 : Bool) (q1 : Int → Int → Bool → Bool → Rs) (q2 : Int → Int → Bool → SV → Rs) : Nat → Int → Int → SV → SV → Rs
  | 0, _, _, _, _ => none
  | m + 1, n9, n11, v13, v14 =>
    let y1 := decide (n11 < (l8.length : Int))
    if y1 then
     let y2 := l8.getD n11.toNat []
     chk (decide (0 ≤ n11) && decide (n11 < l8.length) && isRow z142 y2) <|
     let y3 := t122 (asI (nthD y2 0)) (asI (nthD y2 1)) (asI (nthD y2 2)) (asI (nthD y2 3)) (asI (nthD y2 4)) (asS (nthD y2 5)) (asL (nthD y2 6)) (asI (nthD y2 7)) (asI (nthD y2 8)) n9
     chk (okR zr122 zo122 y3) <|
     let y4 := asI (resC y3 0 0)
     let y5 := decide (y4 < (0 : Int))
     if y5 then
      q1 y4 n11 y1 y5
     else
      la89o1 t122 l8 n10 b12 q1 q2 m y4 (w64 (n11 + (1 : Int))) (.d (.b y1)) (.d (.b y5))
    else
     q2 n9 n11 y1 (keepV [] v14)
/-- laws.szInodeS -/
def ta89 (t122 : Y122) (l1 : List (List D)) (n2 : Int) : Rs :=
  let y1 := w64 (n2 - (l1.length : Int))
  let y2 := decide (y1 < (0 : Int))
  if y2 then
   some ([.one (.i .i64 (-1 : Int))], [])
  else
   la89o1 t122 l1 (0 : Int) y2
    (fun (n30 : Int) (n31 : Int) (b32 : Bool) (b33 : Bool) =>
     some ([.one (.i .i64 (-1 : Int))], []))
    (fun (n34 : Int) (n35 : Int) (b36 : Bool) (v37 : SV) =>
     some ([.one (.i .i64 n34)], [])) KK y1 (0 : Int) SV.undef SV.undef
def t89 : List (List D) → Int → Rs := ta89 t122
def zr89 : List DV := [.one (.i .i64 0)]
def zo89 : List (List D) := []
def A89 : List TA := [.one (.l), .one (.i .i64)]
def v89 (vs : List Vr) : Rs := t89 (vL vs 0) (vI vs 1)
def g89 (xs : List DV) : Bool × List DV × List (List D) := gOf zr89 zo89 (argsT A89 v89 xs)
abbrev Y89 := List (List D) → Int → Rs
/-- laws.szVol -/
def ta53 (t89 : Y89) (n1 : Int) (l2 : List (List D)) (n3 : Int) : Rs :=
  chk (okR zr89 zo89 (t89 l2 n3)) <|
  let y1 := asI (resC (t89 l2 n3) 0 0)
  if decide (y1 < (0 : Int)) then
   some ([.one (.i .i64 (-1 : Int))], [])
  else
   some ([.one (.i .i64 y1)], [])
def t53 : Int → List (List D) → Int → Rs := ta53 t89
def zr53 : List DV := [.one (.i .i64 0)]
def zo53 : List (List D) := []
def A53 : List TA := [.agg [.i .i64, .l], .one (.i .i64)]
def v53 (vs : List Vr) : Rs := t53 (vI vs 0) (vL vs 1) (vI vs 2)
def g53 (xs : List DV) : Bool × List DV × List (List D) := gOf zr53 zo53 (argsT A53 v53 xs)
abbrev Y53 := Int → List (List D) → Int → Rs
/-- laws.szNoteS -/
def t54 (l1 : List (List D)) (n2 : Int) : Rs :=
  let y1 := w64 (n2 - (l1.length : Int))
  if decide (y1 < (0 : Int)) then
   some ([.one (.i .i64 (-1 : Int))], [])
  else
   some ([.one (.i .i64 y1)], [])
def zr54 : List DV := [.one (.i .i64 0)]
def zo54 : List (List D) := []
def A54 : List TA := [.one (.l), .one (.i .i64)]
def v54 (vs : List Vr) : Rs := t54 (vL vs 0) (vI vs 1)
def g54 (xs : List DV) : Bool × List DV × List (List D) := gOf zr54 zo54 (argsT A54 v54 xs)
abbrev Y54 := List (List D) → Int → Rs
/-- laws.szResult -/
def t123 (n1 : Int) (s2 : ByteArray) (n3 : Int) : Rs :=
  let y1 := w64 (n3 - (s2.size : Int))
  if decide (y1 < (0 : Int)) then
   some ([.one (.i .i64 (-1 : Int))], [])
  else
   some ([.one (.i .i64 y1)], [])
def zr123 : List DV := [.one (.i .i64 0)]
def zo123 : List (List D) := []
def A123 : List TA := [.agg [.i .i64, .s], .one (.i .i64)]
def v123 (vs : List Vr) : Rs := t123 (vI vs 0) (vS vs 1) (vI vs 2)
def g123 (xs : List DV) : Bool × List DV × List (List D) := gOf zr123 zo123 (argsT A123 v123 xs)
abbrev Y123 := Int → ByteArray → Int → Rs
/-- laws.szSession -/
def ta90 (t123 : Y123) (n1 : Int) (n2 : Int) (n3 : Int) (n4 : Int) (s5 : ByteArray) (n6 : Int) : Rs :=
  let y1 := t123 n4 s5 n6
  chk (okR zr123 zo123 y1) <|
  let y2 := asI (resC y1 0 0)
  if decide (y2 < (0 : Int)) then
   some ([.one (.i .i64 (-1 : Int))], [])
  else
   some ([.one (.i .i64 y2)], [])
def t90 : Int → Int → Int → Int → ByteArray → Int → Rs := ta90 t123
def zr90 : List DV := [.one (.i .i64 0)]
def zo90 : List (List D) := []
def A90 : List TA := [.agg [.i .i64, .i .i64, .i .i64, .i .i64, .s], .one (.i .i64)]
def v90 (vs : List Vr) : Rs := t90 (vI vs 0) (vI vs 1) (vI vs 2) (vI vs 3) (vS vs 4) (vI vs 5)
def g90 (xs : List DV) : Bool × List DV × List (List D) := gOf zr90 zo90 (argsT A90 v90 xs)
abbrev Y90 := Int → Int → Int → Int → ByteArray → Int → Rs
def la55o1 (t90 : Y90) (l8 : List (List D)) (n10 : Int) (b12 : Bool) (q1 : Int → Int → Bool → Bool → Rs) (q2 : Int → Int → Bool → SV → Rs) : Nat → Int → Int → SV → SV → Rs
  | 0, _, _, _, _ => none
  | m + 1, n9, n11, v13, v14 =>
    let y1 := decide (n11 < (l8.length : Int))
    if y1 then
     let y2 := l8.getD n11.toNat []
     chk (decide (0 ≤ n11) && decide (n11 < l8.length) && isRow z114 y2) <|
     let y3 := t90 (asI (nthD y2 0)) (asI (nthD y2 1)) (asI (nthD y2 2)) (asI (nthD y2 3)) (asS (nthD y2 4)) n9
     chk (okR zr90 zo90 y3) <|
     let y4 := asI (resC y3 0 0)
     let y5 := decide (y4 < (0 : Int))
     if y5 then
      q1 y4 n11 y1 y5
     else
      la55o1 t90 l8 n10 b12 q1 q2 m y4 (w64 (n11 + (1 : Int))) (.d (.b y1)) (.d (.b y5))
    else
     q2 n9 n11 y1 (keepV [] v14)
/-- laws.szSessionS -/
def ta55 (t90 : Y90) (l1 : List (List D)) (n2 : Int) : Rs :=
  let y1 := w64 (n2 - (l1.length : Int))
  let y2 := decide (y1 < (0 : Int))
  if y2 then
   some ([.one (.i .i64 (-1 : Int))], [])
  else
   la55o1 t90 l1 (0 : Int) y2
    (fun (n30 : Int) (n31 : Int) (b32 : Bool) (b33 : Bool) =>
     some ([.one (.i .i64 (-1 : Int))], []))
    (fun (n34 : Int) (n35 : Int) (b36 : Bool) (v37 : SV) =>
     some ([.one (.i .i64 n34)], [])) KK y1 (0 : Int) SV.undef SV.undef
def t55 : List (List D) → Int → Rs := ta55 t90
def zr55 : List DV := [.one (.i .i64 0)]
def zo55 : List (List D) := []
def A55 : List TA := [.one (.l), .one (.i .i64)]
def v55 (vs : List Vr) : Rs := t55 (vL vs 0) (vI vs 1)
def g55 (xs : List DV) : Bool × List DV × List (List D) := gOf zr55 zo55 (argsT A55 v55 xs)
abbrev Y55 := List (List D) → Int → Rs
/-- laws.szTenant -/
def ta22 (t53 : Y53) (t54 : Y54) (t55 : Y55) (n1 : Int) (l2 : List (List D)) (n3 : Int) (l4 : List (List D)) (l5 : List (List D)) (n6 : Int) : Rs :=
  let y1 := t53 n1 l2 n6
  chk (okR zr53 zo53 y1) <|
  let y2 := asI (resC y1 0 0)
  if decide (y2 < (0 : Int)) then
   some ([.one (.i .i64 (-1 : Int))], [])
  else
   let y3 := t54 l4 y2
   chk (okR zr54 zo54 y3) <|
   let y4 := asI (resC y3 0 0)
   if decide (y4 < (0 : Int)) then
    some ([.one (.i .i64 (-1 : Int))], [])
   else
    let y5 := t55 l5 y4
    chk (okR zr55 zo55 y5) <|
    let y6 := asI (resC y5 0 0)
    if decide (y6 < (0 : Int)) then
     some ([.one (.i .i64 (-1 : Int))], [])
    else
     some ([.one (.i .i64 y6)], [])
def t22 : Int → List (List D) → Int → List (List D) → List (List D) → Int → Rs := ta22 t53 t54 t55
def zr22 : List DV := [.one (.i .i64 0)]
def zo22 : List (List D) := []
def A22 : List TA := [.agg [.i .i64, .l, .i .i64, .l, .l], .one (.i .i64)]
def v22 (vs : List Vr) : Rs := t22 (vI vs 0) (vL vs 1) (vI vs 2) (vL vs 3) (vL vs 4) (vI vs 5)
def g22 (xs : List DV) : Bool × List DV × List (List D) := gOf zr22 zo22 (argsT A22 v22 xs)
abbrev Y22 := Int → List (List D) → Int → List (List D) → List (List D) → Int → Rs
/-- laws.toDirent -/
def t145 (s1 : ByteArray) (n2 : Int) : Rs :=
  some ([.agg [.s s1, .i .i64 n2]], [])
def zr145 : List DV := [.agg [.s ⟨#[]⟩, .i .i64 0]]
def zo145 : List (List D) := []
def A145 : List TA := [.agg [.s, .i .i64]]
def v145 (vs : List Vr) : Rs := t145 (vS vs 0) (vI vs 1)
def g145 (xs : List DV) : Bool × List DV × List (List D) := gOf zr145 zo145 (argsT A145 v145 xs)
abbrev Y145 := ByteArray → Int → Rs
def la140o0 (t145 : Y145) (l5 : List (List D)) (q1 : Int → Bool → List (List D) → Rs) : Nat → Int → SV → List (List D) → Rs
  | 0, _, _, _ => none
  | m + 1, n6, v7, l8 =>
    let y1 := decide (n6 < (l5.length : Int))
    if y1 then
     let y2 := l5.getD n6.toNat []
     chk (decide (0 ≤ n6) && decide (n6 < l5.length) && isRow z160 y2) <|
     let y3 := t145 (asS (nthD y2 0)) (asI (nthD y2 1))
     chk (okR zr145 zo145 y3) <|
     chk (decide (0 ≤ n6) && decide (n6 < l8.length)) <|
     chk (decide (2 ≤ 2 ∧ (n6.toNat) < l8.length)) <|
     la140o0 t145 l5 q1 m (w64 (n6 + (1 : Int))) (.d (.b y1)) (stR l8 (n6.toNat) 0 [.s (asS (resC y3 0 0)), .i .i64 (asI (resC y3 0 1))])
    else
     q1 n6 y1 l8
/-- laws.toDirentS -/
def ta140 (t145 : Y145) (l1 : List (List D)) : Rs :=
  let y1 := (l1.length : Int)
  chk (decide (0 ≤ y1 ∧ y1 ≤ lim ∧ y1 = y1)) <|
  la140o0 t145 l1
   (fun (n16 : Int) (b17 : Bool) (l18 : List (List D)) =>
    some ([.one (.l l18)], [])) KK (0 : Int) SV.undef (List.replicate y1.toNat z129)
def t140 : List (List D) → Rs := ta140 t145
def zr140 : List DV := [.one (.l [])]
def zo140 : List (List D) := []
def A140 : List TA := [.one (.l)]
def v140 (vs : List Vr) : Rs := t140 (vL vs 0)
def g140 (xs : List DV) : Bool × List DV × List (List D) := gOf zr140 zo140 (argsT A140 v140 xs)
abbrev Y140 := List (List D) → Rs
/-- laws.toInode -/
def ta128 (t140 : Y140) (n1 : Int) (n2 : Int) (n3 : Int) (n4 : Int) (n5 : Int) (s6 : ByteArray) (l7 : List (List D)) (n8 : Int) (n9 : Int) : Rs :=
  chk (okR zr140 zo140 (t140 l7)) <|
  some ([.agg [.i .i64 n1, .i .i64 n2, .i .i64 n3, .i .i64 n4, .i .i64 n5, .s s6, .l (asL (resC (t140 l7) 0 0)), .i .i64 n8, .i .i64 n9]], [])
def t128 : Int → Int → Int → Int → Int → ByteArray → List (List D) → Int → Int → Rs := ta128 t140
def zr128 : List DV := [.agg [.i .i64 0, .i .i64 0, .i .i64 0, .i .i64 0, .i .i64 0, .s ⟨#[]⟩, .l [], .i .i64 0, .i .i64 0]]
def zo128 : List (List D) := []
def A128 : List TA := [.agg [.i .i64, .i .i64, .i .i64, .i .i64, .i .i64, .s, .l, .i .i64, .i .i64]]
def v128 (vs : List Vr) : Rs := t128 (vI vs 0) (vI vs 1) (vI vs 2) (vI vs 3) (vI vs 4) (vS vs 5) (vL vs 6) (vI vs 7) (vI vs 8)
def g128 (xs : List DV) : Bool × List DV × List (List D) := gOf zr128 zo128 (argsT A128 v128 xs)
abbrev Y128 := Int → Int → Int → Int → Int → ByteArray → List (List D) → Int → Int → Rs
def la96o0 (t128 : Y128) (l5 : List (List D)) (q1 : Int → Bool → List (List D) → Rs) : Nat → Int → SV → List (List D) → Rs
  | 0, _, _, _ => none
  | m + 1, n6, v7, l8 =>
    let y1 := decide (n6 < (l5.length : Int))
    if y1 then
     let y2 := l5.getD n6.toNat []
     chk (decide (0 ≤ n6) && decide (n6 < l5.length) && isRow z142 y2) <|
     let y3 := t128 (asI (nthD y2 0)) (asI (nthD y2 1)) (asI (nthD y2 2)) (asI (nthD y2 3)) (asI (nthD y2 4)) (asS (nthD y2 5)) (asL (nthD y2 6)) (asI (nthD y2 7)) (asI (nthD y2 8))
     chk (okR zr128 zo128 y3) <|
     chk (decide (0 ≤ n6) && decide (n6 < l8.length)) <|
     chk (decide (9 ≤ 9 ∧ (n6.toNat) < l8.length)) <|
     la96o0 t128 l5 q1 m (w64 (n6 + (1 : Int))) (.d (.b y1)) (stR l8 (n6.toNat) 0 [.i .i64 (asI (resC y3 0 0)), .i .i64 (asI (resC y3 0 1)), .i .i64 (asI (resC y3 0 2)), .i .i64 (asI (resC y3 0 3)), .i .i64 (asI (resC y3 0 4)), .s (asS (resC y3 0 5)), .l (asL (resC y3 0 6)), .i .i64 (asI (resC y3 0 7)), .i .i64 (asI (resC y3 0 8))])
    else
     q1 n6 y1 l8
/-- laws.toInodeS -/
def ta96 (t128 : Y128) (l1 : List (List D)) : Rs :=
  let y1 := (l1.length : Int)
  chk (decide (0 ≤ y1 ∧ y1 ≤ lim ∧ y1 = y1)) <|
  la96o0 t128 l1
   (fun (n16 : Int) (b17 : Bool) (l18 : List (List D)) =>
    some ([.one (.l l18)], [])) KK (0 : Int) SV.undef (List.replicate y1.toNat z64)
def t96 : List (List D) → Rs := ta96 t128
def zr96 : List DV := [.one (.l [])]
def zo96 : List (List D) := []
def A96 : List TA := [.one (.l)]
def v96 (vs : List Vr) : Rs := t96 (vL vs 0)
def g96 (xs : List DV) : Bool × List DV × List (List D) := gOf zr96 zo96 (argsT A96 v96 xs)
abbrev Y96 := List (List D) → Rs
/-- laws.toVol -/
def ta60 (t96 : Y96) (n1 : Int) (l2 : List (List D)) : Rs :=
  chk (okR zr96 zo96 (t96 l2)) <|
  some ([.agg [.i .i64 n1, .l (asL (resC (t96 l2) 0 0))]], [])
def t60 : Int → List (List D) → Rs := ta60 t96
def zr60 : List DV := [.agg [.i .i64 0, .l []]]
def zo60 : List (List D) := []
def A60 : List TA := [.agg [.i .i64, .l]]
def v60 (vs : List Vr) : Rs := t60 (vI vs 0) (vL vs 1)
def g60 (xs : List DV) : Bool × List DV × List (List D) := gOf zr60 zo60 (argsT A60 v60 xs)
abbrev Y60 := Int → List (List D) → Rs
/-- laws.toNote -/
def t97 (n1 : Int) (n2 : Int) (n3 : Int) (n4 : Int) (n5 : Int) : Rs :=
  some ([.agg [.i .i64 n1, .i .i64 n2, .i .i64 n3, .i .i64 n4, .i .i64 n5]], [])
def zr97 : List DV := [.agg [.i .i64 0, .i .i64 0, .i .i64 0, .i .i64 0, .i .i64 0]]
def zo97 : List (List D) := []
def A97 : List TA := [.agg [.i .i64, .i .i64, .i .i64, .i .i64, .i .i64]]
def v97 (vs : List Vr) : Rs := t97 (vI vs 0) (vI vs 1) (vI vs 2) (vI vs 3) (vI vs 4)
def g97 (xs : List DV) : Bool × List DV × List (List D) := gOf zr97 zo97 (argsT A97 v97 xs)
abbrev Y97 := Int → Int → Int → Int → Int → Rs
def la61o0 (t97 : Y97) (l5 : List (List D)) (q1 : Int → Bool → List (List D) → Rs) : Nat → Int → SV → List (List D) → Rs
  | 0, _, _, _ => none
  | m + 1, n6, v7, l8 =>
    let y1 := decide (n6 < (l5.length : Int))
    if y1 then
     let y2 := l5.getD n6.toNat []
     chk (decide (0 ≤ n6) && decide (n6 < l5.length) && isRow z121 y2) <|
     let y3 := t97 (asI (nthD y2 0)) (asI (nthD y2 1)) (asI (nthD y2 2)) (asI (nthD y2 3)) (asI (nthD y2 4))
     chk (okR zr97 zo97 y3) <|
     chk (decide (0 ≤ n6) && decide (n6 < l8.length)) <|
     chk (decide (5 ≤ 5 ∧ (n6.toNat) < l8.length)) <|
     la61o0 t97 l5 q1 m (w64 (n6 + (1 : Int))) (.d (.b y1)) (stR l8 (n6.toNat) 0 [.i .i64 (asI (resC y3 0 0)), .i .i64 (asI (resC y3 0 1)), .i .i64 (asI (resC y3 0 2)), .i .i64 (asI (resC y3 0 3)), .i .i64 (asI (resC y3 0 4))])
    else
     q1 n6 y1 l8
/-- laws.toNoteS -/
def ta61 (t97 : Y97) (l1 : List (List D)) : Rs :=
  let y1 := (l1.length : Int)
  chk (decide (0 ≤ y1 ∧ y1 ≤ lim ∧ y1 = y1)) <|
  la61o0 t97 l1
   (fun (n16 : Int) (b17 : Bool) (l18 : List (List D)) =>
    some ([.one (.l l18)], [])) KK (0 : Int) SV.undef (List.replicate y1.toNat z90)
def t61 : List (List D) → Rs := ta61 t97
def zr61 : List DV := [.one (.l [])]
def zo61 : List (List D) := []
def A61 : List TA := [.one (.l)]
def v61 (vs : List Vr) : Rs := t61 (vL vs 0)
def g61 (xs : List DV) : Bool × List DV × List (List D) := gOf zr61 zo61 (argsT A61 v61 xs)
abbrev Y61 := List (List D) → Rs
/-- laws.toResult -/
def t129 (n1 : Int) (s2 : ByteArray) : Rs :=
  some ([.agg [.i .i64 n1, .s s2]], [])
def zr129 : List DV := [.agg [.i .i64 0, .s ⟨#[]⟩]]
def zo129 : List (List D) := []
def A129 : List TA := [.agg [.i .i64, .s]]
def v129 (vs : List Vr) : Rs := t129 (vI vs 0) (vS vs 1)
def g129 (xs : List DV) : Bool × List DV × List (List D) := gOf zr129 zo129 (argsT A129 v129 xs)
abbrev Y129 := Int → ByteArray → Rs
/-- laws.toSession -/
def ta98 (t129 : Y129) (n1 : Int) (n2 : Int) (n3 : Int) (n4 : Int) (s5 : ByteArray) : Rs :=
  chk (okR zr129 zo129 (t129 n4 s5)) <|
  some ([.agg [.i .i64 n1, .i .i64 n2, .i .i64 n3, .i .i64 (asI (resC (t129 n4 s5) 0 0)), .s (asS (resC (t129 n4 s5) 0 1))]], [])
def t98 : Int → Int → Int → Int → ByteArray → Rs := ta98 t129
def zr98 : List DV := [.agg [.i .i64 0, .i .i64 0, .i .i64 0, .i .i64 0, .s ⟨#[]⟩]]
def zo98 : List (List D) := []
def A98 : List TA := [.agg [.i .i64, .i .i64, .i .i64, .i .i64, .s]]
def v98 (vs : List Vr) : Rs := t98 (vI vs 0) (vI vs 1) (vI vs 2) (vI vs 3) (vS vs 4)
def g98 (xs : List DV) : Bool × List DV × List (List D) := gOf zr98 zo98 (argsT A98 v98 xs)
abbrev Y98 := Int → Int → Int → Int → ByteArray → Rs
def la62o0 (t98 : Y98) (l5 : List (List D)) (q1 : Int → Bool → List (List D) → Rs) : Nat → Int → SV → List (List D) → Rs
  | 0, _, _, _ => none
  | m + 1, n6, v7, l8 =>
    let y1 := decide (n6 < (l5.length : Int))
    if y1 then
     let y2 := l5.getD n6.toNat []
     chk (decide (0 ≤ n6) && decide (n6 < l5.length) && isRow z114 y2) <|
     let y3 := t98 (asI (nthD y2 0)) (asI (nthD y2 1)) (asI (nthD y2 2)) (asI (nthD y2 3)) (asS (nthD y2 4))
     chk (okR zr98 zo98 y3) <|
     chk (decide (0 ≤ n6) && decide (n6 < l8.length)) <|
     chk (decide (5 ≤ 5 ∧ (n6.toNat) < l8.length)) <|
     la62o0 t98 l5 q1 m (w64 (n6 + (1 : Int))) (.d (.b y1)) (stR l8 (n6.toNat) 0 [.i .i64 (asI (resC y3 0 0)), .i .i64 (asI (resC y3 0 1)), .i .i64 (asI (resC y3 0 2)), .i .i64 (asI (resC y3 0 3)), .s (asS (resC y3 0 4))])
    else
     q1 n6 y1 l8
/-- laws.toSessionS -/
def ta62 (t98 : Y98) (l1 : List (List D)) : Rs :=
  let y1 := (l1.length : Int)
  chk (decide (0 ≤ y1 ∧ y1 ≤ lim ∧ y1 = y1)) <|
  la62o0 t98 l1
   (fun (n16 : Int) (b17 : Bool) (l18 : List (List D)) =>
    some ([.one (.l l18)], [])) KK (0 : Int) SV.undef (List.replicate y1.toNat z81)
def t62 : List (List D) → Rs := ta62 t98
def zr62 : List DV := [.one (.l [])]
def zo62 : List (List D) := []
def A62 : List TA := [.one (.l)]
def v62 (vs : List Vr) : Rs := t62 (vL vs 0)
def g62 (xs : List DV) : Bool × List DV × List (List D) := gOf zr62 zo62 (argsT A62 v62 xs)
abbrev Y62 := List (List D) → Rs
/-- laws.toTenant -/
def ta24 (t60 : Y60) (t61 : Y61) (t62 : Y62) (n1 : Int) (l2 : List (List D)) (n3 : Int) (l4 : List (List D)) (l5 : List (List D)) : Rs :=
  chk (okR zr60 zo60 (t60 n1 l2)) <|
  chk (okR zr61 zo61 (t61 l4)) <|
  chk (okR zr62 zo62 (t62 l5)) <|
  some ([.agg [.i .i64 (asI (resC (t60 n1 l2) 0 0)), .l (asL (resC (t60 n1 l2) 0 1)), .i .i64 n3, .l (asL (resC (t61 l4) 0 0)), .l (asL (resC (t62 l5) 0 0))]], [])
def t24 : Int → List (List D) → Int → List (List D) → List (List D) → Rs := ta24 t60 t61 t62
def zr24 : List DV := [.agg [.i .i64 0, .l [], .i .i64 0, .l [], .l []]]
def zo24 : List (List D) := []
def A24 : List TA := [.agg [.i .i64, .l, .i .i64, .l, .l]]
def v24 (vs : List Vr) : Rs := t24 (vI vs 0) (vL vs 1) (vI vs 2) (vL vs 3) (vL vs 4)
def g24 (xs : List DV) : Bool × List DV × List (List D) := gOf zr24 zo24 (argsT A24 v24 xs)
abbrev Y24 := Int → List (List D) → Int → List (List D) → List (List D) → Rs
/-- spec.l1In -/
def t57 (n1 : Int) (n2 : Int) (n3 : Int) : Rs :=
  some ([.one (.b ((decide (n1 ≥ n2)) && (decide (n1 ≤ n3))))], [])
def zr57 : List DV := [.one (.b false)]
def zo57 : List (List D) := []
def A57 : List TA := [.one (.i .i64), .one (.i .i64), .one (.i .i64)]
def v57 (vs : List Vr) : Rs := t57 (vI vs 0) (vI vs 1) (vI vs 2)
def g57 (xs : List DV) : Bool × List DV × List (List D) := gOf zr57 zo57 (argsT A57 v57 xs)
abbrev Y57 := Int → Int → Int → Rs
/-- spec.l2Byte -/
def t139 (n1 : Int) : Rs :=
  some ([.one (.b ((((((decide (n1 ≥ (97 : Int))) && (decide (n1 ≤ (122 : Int)))) || ((decide (n1 ≥ (48 : Int))) && (decide (n1 ≤ (57 : Int))))) || (n1 == (46 : Int))) || (n1 == (95 : Int))) || (n1 == (45 : Int))))], [])
def zr139 : List DV := [.one (.b false)]
def zo139 : List (List D) := []
def A139 : List TA := [.one (.i .u8)]
def v139 (vs : List Vr) : Rs := t139 (vI vs 0)
def g139 (xs : List DV) : Bool × List DV × List (List D) := gOf zr139 zo139 (argsT A139 v139 xs)
abbrev Y139 := Int → Rs
def la124o1 (t57 : Y57) (t139 : Y139) (s6 : ByteArray) (b7 : Bool) (b9 : Bool) (q1 : Int → Bool → Bool → Rs) (q2 : Int → Bool → SV → Rs) : Nat → Int → SV → SV → Rs
  | 0, _, _, _ => none
  | m + 1, n8, v10, v11 =>
    let y1 := decide (n8 < (s6.size : Int))
    if y1 then
     chk (decide (0 ≤ n8 ∧ n8 < s6.size)) <|
     let y2 := ((s6.get! n8.toNat).toNat) != (47 : Int)
     chk ((decide (0 ≤ n8 ∧ n8 < s6.size)) || !y2) <|
     let y3 := t139 ((s6.get! n8.toNat).toNat)
     chk ((okR zr139 zo139 y3) || !y2) <|
     let y4 := y2 && (!(asB (resC y3 0 0)))
     if y4 then
      q1 n8 y1 y4
     else
      la124o1 t57 t139 s6 b7 b9 q1 q2 m (w64 (n8 + (1 : Int))) (.d (.b y1)) (.d (.b y4))
    else
     q2 n8 y1 (keepV [] v11)
/-- spec.l4Target -/
def ta124 (t57 : Y57) (t139 : Y139) (s1 : ByteArray) : Rs :=
  let y1 := t57 (s1.size : Int) (1 : Int) (60 : Int)
  chk (okR zr57 zo57 y1) <|
  let y2 := !(asB (resC y1 0 0))
  if y2 then
   some ([.one (.b false)], [])
  else
   la124o1 t57 t139 s1 false y2
    (fun (n24 : Int) (b25 : Bool) (b26 : Bool) =>
     some ([.one (.b false)], []))
    (fun (n27 : Int) (b28 : Bool) (v29 : SV) =>
     some ([.one (.b true)], [])) KK (0 : Int) SV.undef SV.undef
def t124 : ByteArray → Rs := ta124 t57 t139
def zr124 : List DV := [.one (.b false)]
def zo124 : List (List D) := []
def A124 : List TA := [.one (.s)]
def v124 (vs : List Vr) : Rs := t124 (vS vs 0)
def g124 (xs : List DV) : Bool × List DV × List (List D) := gOf zr124 zo124 (argsT A124 v124 xs)
abbrev Y124 := ByteArray → Rs
def la125o1 (t57 : Y57) (t139 : Y139) (s6 : ByteArray) (b7 : Bool) (b9 : Bool) (q1 : Int → Bool → Bool → Rs) (q2 : Int → Bool → SV → Rs) : Nat → Int → SV → SV → Rs
  | 0, _, _, _ => none
  | m + 1, n8, v10, v11 =>
    let y1 := decide (n8 < (s6.size : Int))
    if y1 then
     chk (decide (0 ≤ n8 ∧ n8 < s6.size)) <|
     let y2 := t139 ((s6.get! n8.toNat).toNat)
     chk (okR zr139 zo139 y2) <|
     let y3 := !(asB (resC y2 0 0))
     if y3 then
      q1 n8 y1 y3
     else
      la125o1 t57 t139 s6 b7 b9 q1 q2 m (w64 (n8 + (1 : Int))) (.d (.b y1)) (.d (.b y3))
    else
     q2 n8 y1 (keepV [] v11)
/-- spec.NameOk -/
def ta125 (t57 : Y57) (t139 : Y139) (s1 : ByteArray) : Rs :=
  let y1 := t57 (s1.size : Int) (1 : Int) (8 : Int)
  chk (okR zr57 zo57 y1) <|
  let y2 := ((!(asB (resC y1 0 0))) || (s1.toList == (⟨#[46]⟩ : ByteArray).toList)) || (s1.toList == (⟨#[46, 46]⟩ : ByteArray).toList)
  if y2 then
   some ([.one (.b false)], [])
  else
   la125o1 t57 t139 s1 false y2
    (fun (n24 : Int) (b25 : Bool) (b26 : Bool) =>
     some ([.one (.b false)], []))
    (fun (n27 : Int) (b28 : Bool) (v29 : SV) =>
     some ([.one (.b true)], [])) KK (0 : Int) SV.undef SV.undef
def t125 : ByteArray → Rs := ta125 t57 t139
def zr125 : List DV := [.one (.b false)]
def zo125 : List (List D) := []
def A125 : List TA := [.one (.s)]
def v125 (vs : List Vr) : Rs := t125 (vS vs 0)
def g125 (xs : List DV) : Bool × List DV × List (List D) := gOf zr125 zo125 (argsT A125 v125 xs)
abbrev Y125 := ByteArray → Rs
def l126o0 (n11 : Int) (l12 : List (List D)) (n13 : Int) (n14 : Int) (n18 : Int) (l19 : List (List D)) (q1 : Int → Bool → Bool → Rs) (q2 : Int → Bool → SV → Rs) : Nat → Int → SV → SV → Rs
  | 0, _, _, _ => none
  | m + 1, n15, v16, v17 =>
    let y1 := decide (n15 < (l19.length : Int))
    if y1 then
     let y2 := l19.getD n15.toNat []
     chk (decide (0 ≤ n15) && decide (n15 < l19.length) && isRow z64 y2) <|
     let y3 := (asI (nthD y2 0)) == n13
     if y3 then
      q1 n15 y1 y3
     else
      l126o0 n11 l12 n13 n14 n18 l19 q1 q2 m (w64 (n15 + (1 : Int))) (.d (.b y1)) (.d (.b y3))
    else
     q2 n15 y1 (keepV [128] v17)
/-- spec.l4At -/
def t126 (n1 : Int) (l2 : List (List D)) (n3 : Int) : Rs :=
  l126o0 n1 l2 n3 (0 : Int) n1 l2
   (fun (n35 : Int) (b36 : Bool) (b37 : Bool) =>
    some ([.one (.i .i64 n35)], []))
   (fun (n38 : Int) (b39 : Bool) (v40 : SV) =>
    some ([.one (.i .i64 (-1 : Int))], [])) KK (0 : Int) SV.undef SV.undef
def zr126 : List DV := [.one (.i .i64 0)]
def zo126 : List (List D) := []
def A126 : List TA := [.agg [.i .i64, .l], .one (.i .i64)]
def v126 (vs : List Vr) : Rs := t126 (vI vs 0) (vL vs 1) (vI vs 2)
def g126 (xs : List DV) : Bool × List DV × List (List D) := gOf zr126 zo126 (argsT A126 v126 xs)
abbrev Y126 := Int → List (List D) → Int → Rs
def la91o5 (t57 : Y57) (t124 : Y124) (t125 : Y125) (t126 : Y126) (n43 : Int) (l44 : List (List D)) (n45 : Int) (n46 : Int) (n47 : Int) (n48 : Int) (n49 : Int) (s50 : ByteArray) (l51 : List (List D)) (n52 : Int) (n53 : Int) (b54 : Bool) (b55 : Bool) (b57 : Bool) (n58 : Int) (b59 : Bool) (b60 : Bool) (b61 : Bool) (b62 : Bool) (n65 : Int) (l66 : List (List D)) (n67 : Int) (n68 : Int) (n69 : Int) (n70 : Int) (n71 : Int) (s72 : ByteArray) (l73 : List (List D)) (n74 : Int) (n75 : Int) (q1 : Int → Bool → Bool → ByteArray → Int → Rs) (q2 : Int → Bool → SV → Rs) : Nat → Int → SV → SV → Rs
  | 0, _, _, _ => none
  | m + 1, n56, v63, v64 =>
    let y1 := decide (n56 < (l73.length : Int))
    if y1 then
     let y2 := l73.getD n56.toNat []
     chk (decide (0 ≤ n56) && decide (n56 < l73.length) && isRow z129 y2) <|
     let y3 := asS (nthD y2 0)
     let y4 := t125 y3
     chk (okR zr125 zo125 y4) <|
     let y5 := w64 (n56 - (1 : Int))
     let y6 := l73.getD y5.toNat []
     let y7 := !(asB (resC y4 0 0))
     let y8 := decide (n56 > (0 : Int))
     chk ((decide (0 ≤ y5) && decide (y5 < l73.length) && isRow z129 y6) || !((!y7) && y8)) <|
     let y9 := asI (nthD y2 1)
     let y10 := t126 n65 l66 y9
     let y11 := (y7 || (y8 && (!(Op.bytesLess (asS (nthD y6 0)).toList y3.toList)))) || (y9 == (1 : Int))
     chk ((okR zr126 zo126 y10) || !(!y11)) <|
     let y12 := y11 || (decide ((asI (resC y10 0 0)) < (0 : Int)))
     if y12 then
      q1 n56 y1 y12 y3 y9
     else
      la91o5 t57 t124 t125 t126 n43 l44 n45 n46 n47 n48 n49 s50 l51 n52 n53 b54 b55 b57 n58 b59 b60 b61 b62 n65 l66 n67 n68 n69 n70 n71 s72 l73 n74 n75 q1 q2 m (w64 (n56 + (1 : Int))) (.d (.b y1)) (.d (.b y12))
    else
     q2 n56 y1 (keepV [128, 192] v64)
/-- spec.l4InodeOk -/
def ta91 (t57 : Y57) (t124 : Y124) (t125 : Y125) (t126 : Y126) (n1 : Int) (l2 : List (List D)) (n3 : Int) (n4 : Int) (n5 : Int) (n6 : Int) (n7 : Int) (s8 : ByteArray) (l9 : List (List D)) (n10 : Int) (n11 : Int) : Rs :=
  let y1 := t57 n5 (0 : Int) (2047 : Int)
  chk (okR zr57 zo57 y1) <|
  let y2 := t57 n6 (0 : Int) (1000 : Int)
  let y3 := !(asB (resC y1 0 0))
  chk ((okR zr57 zo57 y2) || !(!y3)) <|
  let y4 := t57 n7 (0 : Int) (1000 : Int)
  let y5 := y3 || (!(asB (resC y2 0 0)))
  chk ((okR zr57 zo57 y4) || !(!y5)) <|
  let y6 := y5 || (!(asB (resC y4 0 0)))
  if y6 then
   some ([.one (.b false)], [])
  else
   let y7 := n4 == (1 : Int)
   if y7 then
    let y8 := (((l9.length : Int) == (0 : Int)) && (n10 == (0 : Int))) && (n11 == (0 : Int))
    some ([.one (.b (y8 && (decide ((s8.size : Int) ≤ (64 : Int)))))], [])
   else
    let y9 := n4 == (3 : Int)
    if y9 then
     let y10 := (((l9.length : Int) == (0 : Int)) && (n10 == (0 : Int))) && (n11 == (0 : Int))
     chk ((okR zr124 zo124 (t124 s8)) || !y10) <|
     some ([.one (.b ((y10 && (asB (resC (t124 s8) 0 0))) && (n5 == (511 : Int))))], [])
    else
     let y11 := n4 == (2 : Int)
     if y11 then
      let y12 := t57 n10 (0 : Int) (400 : Int)
      let y13 := (!(s8.toList == (⟨#[]⟩ : ByteArray).toList)) || (decide ((l9.length : Int) > (12 : Int)))
      chk ((okR zr57 zo57 y12) || !(!y13)) <|
      let y14 := t57 n11 (0 : Int) (24 : Int)
      let y15 := y13 || (!(asB (resC y12 0 0)))
      chk ((okR zr57 zo57 y14) || !(!y15)) <|
      let y16 := y15 || (!(asB (resC y14 0 0)))
      if y16 then
       some ([.one (.b false)], [])
      else
       let y17 := (((l9.length : Int) == (0 : Int)) && (n10 == (0 : Int))) && (n11 == (0 : Int))
       la91o5 t57 t124 t125 t126 n1 l2 n3 n4 n5 n6 n7 s8 l9 n10 n11 false y17 y6 n4 y7 y9 y11 y16 n1 l2 n3 n4 n5 n6 n7 s8 l9 n10 n11
        (fun (n117 : Int) (b118 : Bool) (b119 : Bool) (s120 : ByteArray) (n121 : Int) =>
         some ([.one (.b false)], []))
        (fun (n122 : Int) (b123 : Bool) (v124 : SV) =>
         some ([.one (.b true)], [])) KK (0 : Int) SV.undef SV.undef
     else
      some ([.one (.b false)], [])
def t91 : Int → List (List D) → Int → Int → Int → Int → Int → ByteArray → List (List D) → Int → Int → Rs := ta91 t57 t124 t125 t126
def zr91 : List DV := [.one (.b false)]
def zo91 : List (List D) := []
def A91 : List TA := [.agg [.i .i64, .l], .agg [.i .i64, .i .i64, .i .i64, .i .i64, .i .i64, .s, .l, .i .i64, .i .i64]]
def v91 (vs : List Vr) : Rs := t91 (vI vs 0) (vL vs 1) (vI vs 2) (vI vs 3) (vI vs 4) (vI vs 5) (vI vs 6) (vS vs 7) (vL vs 8) (vI vs 9) (vI vs 10)
def g91 (xs : List DV) : Bool × List DV × List (List D) := gOf zr91 zo91 (argsT A91 v91 xs)
abbrev Y91 := Int → List (List D) → Int → Int → Int → Int → Int → ByteArray → List (List D) → Int → Int → Rs
def la92o6 (t126 : Y126) (n379 : Int) (l380 : List (List D)) (n381 : Int) (n382 : Int) (n383 : Int) (n384 : Int) (b387 : Bool) (b388 : Bool) (b389 : Bool) (b390 : Bool) (n393 : Int) (l394 : List (List D)) (q1 : Int → SV → Bool → SV → List (List D) → List (List D) → Rs) : Nat → Int → SV → SV → SV → List (List D) → List (List D) → Rs
  | 0, _, _, _, _, _, _ => none
  | m + 1, n385, v386, v391, v392, l395, l396 =>
    let y1 := l394.getD n384.toNat []
    chk (decide (0 ≤ n384) && decide (n384 < l394.length) && isRow z64 y1) <|
    let y2 := decide (n385 < ((asL (nthD y1 6)).length : Int))
    if y2 then
     let y3 := l394.getD n384.toNat []
     chk (decide (0 ≤ n384) && decide (n384 < l394.length) && isRow z64 y3) <|
     let y4 := asL (nthD y3 6)
     let y5 := y4.getD n385.toNat []
     chk (decide (0 ≤ n385) && decide (n385 < y4.length) && isRow z129 y5) <|
     let y6 := t126 n393 l394 (asI (nthD y5 1))
     chk (okR zr126 zo126 y6) <|
     let k1 := fun (l397 : List (List D)) (l398 : List (List D)) =>
      let y7 := asI (resC y6 0 0)
      let y8 := decide (y7 ≥ (0 : Int))
      la92o6 t126 n379 l380 n381 n382 n383 n384 b387 b388 b389 b390 n393 l394 q1 m (w64 (n385 + (1 : Int))) (.d (.i .i64 y7)) (.d (.b y2)) (.d (.b y8)) l397 l398
     let y9 := asI (resC y6 0 0)
     let y10 := decide (y9 ≥ (0 : Int))
     if y10 then
      chk (decide (0 ≤ y9) && decide (y9 < l395.length)) <|
      let y11 := y9.toNat
      chk (decide (1 ≤ 1 ∧ y11 < l395.length)) <|
      chk (decide (0 ≤ y9) && decide (y9 < l396.length)) <|
      let y12 := y9.toNat
      chk (decide (1 ≤ 1 ∧ y12 < l396.length)) <|
      k1 (stR l395 y11 0 [.b true]) (stR l396 y12 0 [.b true])
     else
      k1 l395 l396
    else
     q1 n385 (keepV [128, 960, 1216] v386) y2 (keepV [128, 960, 1216] v392) l395 l396
def la92o3 (t126 : Y126) (n341 : Int) (l342 : List (List D)) (n343 : Int) (n344 : Int) (n345 : Int) (b349 : Bool) (b350 : Bool) (n355 : Int) (l356 : List (List D)) (q1 : Int → SV → SV → Bool → SV → SV → SV → List (List D) → List (List D) → Rs) : Nat → Int → SV → SV → SV → SV → SV → SV → List (List D) → List (List D) → Rs
  | 0, _, _, _, _, _, _, _, _, _ => none
  | m + 1, n346, v347, v348, v351, v352, v353, v354, l357, l358 =>
    let y1 := decide (n346 < (l356.length : Int))
    if y1 then
     chk (decide (0 ≤ n346) && decide (n346 < l358.length)) <|
     let y2 := l358.getD (n346.toNat) []
     chk (decide (1 ≤ y2.length) && isF z4 0 y2) <|
     let y3 := !(asB (nthD y2 0))
     if y3 then
      la92o3 t126 n341 l342 n343 n344 n345 b349 b350 n355 l356 q1 m (w64 (n346 + (1 : Int))) (keepV [128, 960, 1216] v347) (keepV [128, 960, 1216] v348) (.d (.b y1)) (.d (.b y3)) (keepV [128, 960, 1216] v353) (keepV [128, 960, 1216] v354) l357 l358
     else
      la92o6 t126 n341 l342 n343 n344 n345 n346 b349 b350 y1 y3 n355 l356
       (fun (n423 : Int) (v424 : SV) (b425 : Bool) (v426 : SV) (l427 : List (List D)) (l428 : List (List D)) =>
        la92o3 t126 n341 l342 n343 n344 n345 b349 b350 n355 l356 q1 m (w64 (n346 + (1 : Int))) (.d (.i .i64 n423)) (keepV [128, 960, 1216] v424) (.d (.b y1)) (.d (.b y3)) (.d (.b b425)) (keepV [128, 960, 1216] v426) l427 l428) KK (0 : Int) v348 v353 v354 l357 l358
    else
     q1 n346 (keepV [128, 960, 1216] v347) (keepV [128, 960, 1216] v348) y1 (keepV [128, 960, 1216] v352) (keepV [128, 960, 1216] v353) (keepV [128, 960, 1216] v354) l357 l358
def la92o1 (t126 : Y126) (n235 : Int) (l236 : List (List D)) (n237 : Int) (n238 : Int) (b243 : Bool) (n249 : Int) (l250 : List (List D)) (q1 : Int → SV → SV → SV → Bool → SV → SV → SV → SV → List (List D) → List (List D) → Rs) : Nat → Int → SV → SV → SV → SV → SV → SV → SV → SV → List (List D) → List (List D) → Rs
  | 0, _, _, _, _, _, _, _, _, _, _, _ => none
  | m + 1, n239, v240, v241, v242, v244, v245, v246, v247, v248, l251, l252 =>
    let y1 := decide (n239 < (l250.length : Int))
    if y1 then
     la92o3 t126 n235 l236 n237 n238 n239 b243 y1 n249 l250
      (fun (n474 : Int) (v475 : SV) (v476 : SV) (b477 : Bool) (v478 : SV) (v479 : SV) (v480 : SV) (l481 : List (List D)) (l482 : List (List D)) =>
       la92o1 t126 n235 l236 n237 n238 b243 n249 l250 q1 m (w64 (n239 + (1 : Int))) (.d (.i .i64 n474)) (keepV [128, 960, 1216] v475) (keepV [128, 960, 1216] v476) (.d (.b y1)) (.d (.b b477)) (keepV [128, 960, 1216] v478) (keepV [128, 960, 1216] v479) (keepV [128, 960, 1216] v480) l481 l482) KK (0 : Int) v241 v242 v245 v246 v247 v248 l251 l252
    else
     q1 n239 (keepV [128, 960, 1216] v240) (keepV [128, 960, 1216] v241) (keepV [128, 960, 1216] v242) y1 (keepV [128, 960, 1216] v245) (keepV [128, 960, 1216] v246) (keepV [128, 960, 1216] v247) (keepV [128, 960, 1216] v248) l251 l252
/-- spec.l4Below -/
def ta92 (t126 : Y126) (n1 : Int) (l2 : List (List D)) (n3 : Int) : Rs :=
  let y1 := (l2.length : Int)
  chk (decide (0 ≤ y1 ∧ y1 ≤ lim ∧ y1 = y1)) <|
  let y2 := (l2.length : Int)
  chk (decide (0 ≤ y2 ∧ y2 ≤ lim ∧ y2 = y2)) <|
  let y3 := t126 n1 l2 n3
  chk (okR zr126 zo126 y3) <|
  let y4 := asI (resC y3 0 0)
  let y5 := decide (y4 < (0 : Int))
  if y5 then
   let y6 := List.replicate y1.toNat z4
   some ([.one (.l y6)], [])
  else
   let y7 := List.replicate y2.toNat z4
   chk (decide (0 ≤ y4) && decide (y4 < y7.length)) <|
   let y8 := y4.toNat
   chk (decide (1 ≤ 1 ∧ y8 < y7.length)) <|
   let y9 := List.replicate y1.toNat z4
   la92o1 t126 n1 l2 n3 y4 y5 n1 l2
    (fun (n512 : Int) (v513 : SV) (v514 : SV) (v515 : SV) (b516 : Bool) (v517 : SV) (v518 : SV) (v519 : SV) (v520 : SV) (l521 : List (List D)) (l522 : List (List D)) =>
     some ([.one (.l l521)], [])) KK (0 : Int) SV.undef SV.undef SV.undef SV.undef SV.undef SV.undef SV.undef SV.undef y9 (stR y7 y8 0 [.b true])
def t92 : Int → List (List D) → Int → Rs := ta92 t126
def zr92 : List DV := [.one (.l [])]
def zo92 : List (List D) := []
def A92 : List TA := [.agg [.i .i64, .l], .one (.i .i64)]
def v92 (vs : List Vr) : Rs := t92 (vI vs 0) (vL vs 1) (vI vs 2)
def g92 (xs : List DV) : Bool × List DV × List (List D) := gOf zr92 zo92 (argsT A92 v92 xs)
abbrev Y92 := Int → List (List D) → Int → Rs
def l93o2 (n81 : Int) (l82 : List (List D)) (n83 : Int) (n84 : Int) (n86 : Int) (b88 : Bool) (n91 : Int) (l92 : List (List D)) (q1 : Int → Int → Bool → SV → Rs) : Nat → Int → Int → SV → SV → Rs
  | 0, _, _, _, _ => none
  | m + 1, n85, n87, v89, v90 =>
    let y1 := l92.getD n86.toNat []
    chk (decide (0 ≤ n86) && decide (n86 < l92.length) && isRow z64 y1) <|
    let y2 := decide (n87 < ((asL (nthD y1 6)).length : Int))
    if y2 then
     let y3 := l92.getD n86.toNat []
     chk (decide (0 ≤ n86) && decide (n86 < l92.length) && isRow z64 y3) <|
     let y4 := asL (nthD y3 6)
     let y5 := y4.getD n87.toNat []
     chk (decide (0 ≤ n87) && decide (n87 < y4.length) && isRow z129 y5) <|
     let k1 := fun (n93 : Int) =>
      let y6 := (asI (nthD y5 1)) == n83
      l93o2 n81 l82 n83 n84 n86 b88 n91 l92 q1 m n93 (w64 (n87 + (1 : Int))) (.d (.b y2)) (.d (.b y6))
     let y7 := (asI (nthD y5 1)) == n83
     if y7 then
      k1 (w64 (n85 + (1 : Int)))
     else
      k1 n85
    else
     q1 n85 n87 y2 (keepV [128] v90)
def l93o0 (n56 : Int) (l57 : List (List D)) (n58 : Int) (n59 : Int) (n66 : Int) (l67 : List (List D)) (q1 : Int → Int → SV → Bool → SV → SV → Rs) : Nat → Int → Int → SV → SV → SV → SV → Rs
  | 0, _, _, _, _, _, _ => none
  | m + 1, n60, n61, v62, v63, v64, v65 =>
    let y1 := decide (n61 < (l67.length : Int))
    if y1 then
     l93o2 n56 l57 n58 n59 n61 y1 n66 l67
      (fun (n110 : Int) (n111 : Int) (b112 : Bool) (v113 : SV) =>
       l93o0 n56 l57 n58 n59 n66 l67 q1 m n110 (w64 (n61 + (1 : Int))) (.d (.i .i64 n111)) (.d (.b y1)) (.d (.b b112)) (keepV [128] v113)) KK n60 (0 : Int) v64 v65
    else
     q1 n60 n61 (keepV [128] v62) y1 (keepV [128] v64) (keepV [128] v65)
/-- spec.l4Named -/
def t93 (n1 : Int) (l2 : List (List D)) (n3 : Int) : Rs :=
  l93o0 n1 l2 n3 (0 : Int) n1 l2
   (fun (n132 : Int) (n133 : Int) (v134 : SV) (b135 : Bool) (v136 : SV) (v137 : SV) =>
    some ([.one (.i .i64 n132)], [])) KK (0 : Int) (0 : Int) SV.undef SV.undef SV.undef SV.undef
def zr93 : List DV := [.one (.i .i64 0)]
def zo93 : List (List D) := []
def A93 : List TA := [.agg [.i .i64, .l], .one (.i .i64)]
def v93 (vs : List Vr) : Rs := t93 (vI vs 0) (vL vs 1) (vI vs 2)
def g93 (xs : List DV) : Bool × List DV × List (List D) := gOf zr93 zo93 (argsT A93 v93 xs)
abbrev Y93 := Int → List (List D) → Int → Rs
def l94o0 (n10 : Int) (l11 : List (List D)) (n12 : Int) (n16 : Int) (l17 : List (List D)) (q1 : Int → Int → Bool → Rs) : Nat → Int → Int → SV → Rs
  | 0, _, _, _ => none
  | m + 1, n13, n14, v15 =>
    let y1 := decide (n14 < (l17.length : Int))
    if y1 then
     let y2 := l17.getD n14.toNat []
     chk (decide (0 ≤ n14) && decide (n14 < l17.length) && isRow z64 y2) <|
     l94o0 n10 l11 n12 n16 l17 q1 m (w64 (n13 + ((asS (nthD y2 5)).size : Int))) (w64 (n14 + (1 : Int))) (.d (.b y1))
    else
     q1 n13 n14 y1
/-- spec.l4Bytes -/
def t94 (n1 : Int) (l2 : List (List D)) : Rs :=
  l94o0 n1 l2 (0 : Int) n1 l2
   (fun (n29 : Int) (n30 : Int) (b31 : Bool) =>
    some ([.one (.i .i64 n29)], [])) KK (0 : Int) (0 : Int) SV.undef
def zr94 : List DV := [.one (.i .i64 0)]
def zo94 : List (List D) := []
def A94 : List TA := [.agg [.i .i64, .l]]
def v94 (vs : List Vr) : Rs := t94 (vI vs 0) (vL vs 1)
def g94 (xs : List DV) : Bool × List DV × List (List D) := gOf zr94 zo94 (argsT A94 v94 xs)
abbrev Y94 := Int → List (List D) → Rs
def la127o0 (t92 : Y92) (n17 : Int) (l18 : List (List D)) (n19 : Int) (n20 : Int) (n21 : Int) (n27 : Int) (l28 : List (List D)) (l29 : List (List D)) (q1 : Int → Int → Int → Bool → SV → Rs) : Nat → Int → Int → Int → SV → SV → Rs
  | 0, _, _, _, _, _ => none
  | m + 1, n22, n23, n24, v25, v26 =>
    let y1 := decide (n24 < (l29.length : Int))
    if y1 then
     chk (decide (0 ≤ n24) && decide (n24 < l29.length)) <|
     let y2 := l29.getD (n24.toNat) []
     chk (decide (1 ≤ y2.length) && isF z4 0 y2) <|
     let k1 := fun (n30 : Int) (n31 : Int) =>
      let y3 := asB (nthD y2 0)
      la127o0 t92 n17 l18 n19 n20 n21 n27 l28 l29 q1 m n30 n31 (w64 (n24 + (1 : Int))) (.d (.b y1)) (.d (.b y3))
     let y4 := asB (nthD y2 0)
     if y4 then
      let y5 := l28.getD n24.toNat []
      chk (decide (0 ≤ n24) && decide (n24 < l28.length) && isRow z64 y5) <|
      k1 (w64 (n22 + ((asS (nthD y5 5)).size : Int))) (w64 (n23 + (1 : Int)))
     else
      k1 n22 n23
    else
     q1 n22 n23 n24 y1 (keepV [128, 768] v26)
/-- spec.l4Usage -/
def ta127 (t92 : Y92) (n1 : Int) (l2 : List (List D)) (n3 : Int) : Rs :=
  let y1 := t92 n1 l2 n3
  chk (okR zr92 zo92 y1) <|
  la127o0 t92 n1 l2 n3 (0 : Int) (0 : Int) n1 l2 (asL (resC y1 0 0))
   (fun (n50 : Int) (n51 : Int) (n52 : Int) (b53 : Bool) (v54 : SV) =>
    some ([.one (.i .i64 n50), .one (.i .i64 n51)], [])) KK (0 : Int) (0 : Int) (0 : Int) SV.undef SV.undef
def t127 : Int → List (List D) → Int → Rs := ta127 t92
def zr127 : List DV := [.one (.i .i64 0), .one (.i .i64 0)]
def zo127 : List (List D) := []
def A127 : List TA := [.agg [.i .i64, .l], .one (.i .i64)]
def v127 (vs : List Vr) : Rs := t127 (vI vs 0) (vL vs 1) (vI vs 2)
def g127 (xs : List DV) : Bool × List DV × List (List D) := gOf zr127 zo127 (argsT A127 v127 xs)
abbrev Y127 := Int → List (List D) → Int → Rs
def la95o0 (t127 : Y127) (n9 : Int) (l10 : List (List D)) (b11 : Bool) (n18 : Int) (l19 : List (List D)) (q1 : Int → Int → Int → Bool → Bool → Bool → Int → Int → Int → Int → Int → ByteArray → List (List D) → Int → Int → Rs) (q2 : Int → SV → SV → Bool → SV → SV → Rs) : Nat → Int → SV → SV → SV → SV → SV → Rs
  | 0, _, _, _, _, _, _ => none
  | m + 1, n12, v13, v14, v15, v16, v17 =>
    let y1 := decide (n12 < (l19.length : Int))
    if y1 then
     let y2 := l19.getD n12.toNat []
     chk (decide (0 ≤ n12) && decide (n12 < l19.length) && isRow z64 y2) <|
     let y3 := asI (nthD y2 1)
     let y4 := asI (nthD y2 7)
     let y5 := asI (nthD y2 8)
     let y6 := (y3 != (2 : Int)) || ((y4 == (0 : Int)) && (y5 == (0 : Int)))
     if y6 then
      la95o0 t127 n9 l10 b11 n18 l19 q1 q2 m (w64 (n12 + (1 : Int))) (keepV [64] v13) (keepV [64] v14) (.d (.b y1)) (.d (.b y6)) (keepV [64] v17)
     else
      let y7 := asI (nthD y2 0)
      let y8 := t127 n18 l19 y7
      chk (okR zr127 zo127 y8) <|
      let y9 := asI (resC y8 0 0)
      let y10 := asI (resC y8 1 0)
      let y11 := ((decide (y4 > (0 : Int))) && (decide (y9 > y4))) || ((decide (y5 > (0 : Int))) && (decide (y10 > y5)))
      if y11 then
       q1 n12 y9 y10 y1 y6 y11 y7 y3 (asI (nthD y2 2)) (asI (nthD y2 3)) (asI (nthD y2 4)) (asS (nthD y2 5)) (asL (nthD y2 6)) y4 y5
      else
       la95o0 t127 n9 l10 b11 n18 l19 q1 q2 m (w64 (n12 + (1 : Int))) (.d (.i .i64 y9)) (.d (.i .i64 y10)) (.d (.b y1)) (.d (.b y6)) (.d (.b y11))
    else
     q2 n12 (keepV [64] v13) (keepV [64] v14) y1 (keepV [64] v16) (keepV [64] v17)
/-- spec.l4Over -/
def ta95 (t127 : Y127) (n1 : Int) (l2 : List (List D)) : Rs :=
  la95o0 t127 n1 l2 false n1 l2
   (fun (n63 : Int) (n64 : Int) (n65 : Int) (b66 : Bool) (b67 : Bool) (b68 : Bool) (n69 : Int) (n70 : Int) (n71 : Int) (n72 : Int) (n73 : Int) (s74 : ByteArray) (l75 : List (List D)) (n76 : Int) (n77 : Int) =>
    some ([.one (.b true)], []))
   (fun (n78 : Int) (v79 : SV) (v80 : SV) (b81 : Bool) (v82 : SV) (v83 : SV) =>
    some ([.one (.b false)], [])) KK (0 : Int) SV.undef SV.undef SV.undef SV.undef SV.undef
def t95 : Int → List (List D) → Rs := ta95 t127
def zr95 : List DV := [.one (.b false)]
def zo95 : List (List D) := []
def A95 : List TA := [.agg [.i .i64, .l]]
def v95 (vs : List Vr) : Rs := t95 (vI vs 0) (vL vs 1)
def g95 (xs : List DV) : Bool × List DV × List (List D) := gOf zr95 zo95 (argsT A95 v95 xs)
abbrev Y95 := Int → List (List D) → Rs
def la56o4 (t57 : Y57) (t91 : Y91) (t92 : Y92) (t93 : Y93) (t94 : Y94) (t95 : Y95) (n69 : Int) (l70 : List (List D)) (b71 : Bool) (n72 : Int) (b74 : Bool) (b75 : Bool) (n79 : Int) (l80 : List (List D)) (l81 : List (List D)) (q1 : Int → SV → Bool → Bool → Rs) (q2 : Int → SV → Bool → SV → Rs) : Nat → Int → SV → SV → SV → Rs
  | 0, _, _, _, _ => none
  | m + 1, n73, v76, v77, v78 =>
    let y1 := decide (n73 < (l80.length : Int))
    if y1 then
     chk (decide (0 ≤ n73) && decide (n73 < l81.length)) <|
     let y2 := l81.getD (n73.toNat) []
     chk (decide (1 ≤ y2.length) && isF z4 0 y2) <|
     let y3 := l80.getD n73.toNat []
     let y4 := !(asB (nthD y2 0))
     chk ((decide (0 ≤ n73) && decide (n73 < l80.length) && isRow z64 y3) || !(!y4)) <|
     let y5 := l80.getD n73.toNat []
     let y6 := !y4
     let y7 := (asI (nthD y3 1)) == (2 : Int)
     chk ((decide (0 ≤ n73) && decide (n73 < l80.length) && isRow z64 y5) || !(y6 && y7)) <|
     let y8 := t93 n79 l80 (asI (nthD y5 0))
     chk ((okR zr93 zo93 y8) || !(y6 && y7)) <|
     let y9 := y4 || (y7 && ((asI (resC y8 0 0)) != (1 : Int)))
     if y9 then
      q1 n73 v76 y1 y9
     else
      la56o4 t57 t91 t92 t93 t94 t95 n69 l70 b71 n72 b74 b75 n79 l80 l81 q1 q2 m (w64 (n73 + (1 : Int))) (keepV [64, 4864] v76) (.d (.b y1)) (.d (.b y9))
    else
     q2 n73 (keepV [64, 4864] v76) y1 (keepV [64, 4864] v78)
def la56o1 (t57 : Y57) (t91 : Y91) (t92 : Y92) (t93 : Y93) (t94 : Y94) (t95 : Y95) (n10 : Int) (l11 : List (List D)) (b12 : Bool) (b14 : Bool) (n17 : Int) (l18 : List (List D)) (q1 : Int → Bool → Bool → Int → Int → Int → Int → Int → ByteArray → List (List D) → Int → Int → Rs) (q2 : Int → Bool → SV → Rs) : Nat → Int → SV → SV → Rs
  | 0, _, _, _ => none
  | m + 1, n13, v15, v16 =>
    let y1 := decide (n13 < (l18.length : Int))
    if y1 then
     let y2 := l18.getD n13.toNat []
     chk (decide (0 ≤ n13) && decide (n13 < l18.length) && isRow z64 y2) <|
     let y3 := asI (nthD y2 0)
     let y4 := t57 y3 (1 : Int) (w64 (n17 - (1 : Int)))
     chk (okR zr57 zo57 y4) <|
     let y5 := w64 (n13 - (1 : Int))
     let y6 := l18.getD y5.toNat []
     let y7 := !(asB (resC y4 0 0))
     let y8 := decide (n13 > (0 : Int))
     chk ((decide (0 ≤ y5) && decide (y5 < l18.length) && isRow z64 y6) || !((!y7) && y8)) <|
     let y9 := asI (nthD y2 1)
     let y10 := asI (nthD y2 2)
     let y11 := asI (nthD y2 3)
     let y12 := asI (nthD y2 4)
     let y13 := asS (nthD y2 5)
     let y14 := asL (nthD y2 6)
     let y15 := asI (nthD y2 7)
     let y16 := asI (nthD y2 8)
     let y17 := t91 n17 l18 y3 y9 y10 y11 y12 y13 y14 y15 y16
     let y18 := y7 || (y8 && (decide ((asI (nthD y6 0)) ≥ y3)))
     chk ((okR zr91 zo91 y17) || !(!y18)) <|
     let y19 := y18 || (!(asB (resC y17 0 0)))
     if y19 then
      q1 n13 y1 y19 y3 y9 y10 y11 y12 y13 y14 y15 y16
     else
      la56o1 t57 t91 t92 t93 t94 t95 n10 l11 b12 b14 n17 l18 q1 q2 m (w64 (n13 + (1 : Int))) (.d (.b y1)) (.d (.b y19))
    else
     q2 n13 y1 (keepV [64] v16)
/-- spec.VolOk -/
def ta56 (t57 : Y57) (t91 : Y91) (t92 : Y92) (t93 : Y93) (t94 : Y94) (t95 : Y95) (n1 : Int) (l2 : List (List D)) : Rs :=
  let y1 := t57 n1 (2 : Int) (100000 : Int)
  chk (okR zr57 zo57 y1) <|
  let y2 := t57 (l2.length : Int) (1 : Int) (24 : Int)
  let y3 := !(asB (resC y1 0 0))
  chk ((okR zr57 zo57 y2) || !(!y3)) <|
  let y4 := l2.getD (0 : Int).toNat []
  let y5 := y3 || (!(asB (resC y2 0 0)))
  chk ((decide (0 ≤ (0 : Int)) && decide ((0 : Int) < l2.length) && isRow z64 y4) || !(!y5)) <|
  let y6 := l2.getD (0 : Int).toNat []
  let y7 := y5 || ((asI (nthD y4 0)) != (1 : Int))
  chk ((decide (0 ≤ (0 : Int)) && decide ((0 : Int) < l2.length) && isRow z64 y6) || !(!y7)) <|
  let y8 := y7 || ((asI (nthD y6 1)) != (2 : Int))
  if y8 then
   some ([.one (.b false)], [])
  else
   la56o1 t57 t91 t92 t93 t94 t95 n1 l2 false y8 n1 l2
    (fun (n43 : Int) (b44 : Bool) (b45 : Bool) (n46 : Int) (n47 : Int) (n48 : Int) (n49 : Int) (n50 : Int) (s51 : ByteArray) (l52 : List (List D)) (n53 : Int) (n54 : Int) =>
     some ([.one (.b false)], []))
    (fun (n55 : Int) (b56 : Bool) (v57 : SV) =>
     let y9 := t92 n1 l2 (1 : Int)
     chk (okR zr92 zo92 y9) <|
     la56o4 t57 t91 t92 t93 t94 t95 n1 l2 false n55 y8 b56 n1 l2 (asL (resC y9 0 0))
      (fun (n103 : Int) (v104 : SV) (b105 : Bool) (b106 : Bool) =>
       some ([.one (.b false)], []))
      (fun (n107 : Int) (v108 : SV) (b109 : Bool) (v110 : SV) =>
       chk (okR zr94 zo94 (t94 n1 l2)) <|
       let y10 := decide ((asI (resC (t94 n1 l2) 0 0)) ≤ (400 : Int))
       chk ((okR zr95 zo95 (t95 n1 l2)) || !y10) <|
       some ([.one (.b (y10 && (!(asB (resC (t95 n1 l2) 0 0)))))], [])) KK (1 : Int) v57 SV.undef SV.undef) KK (0 : Int) SV.undef SV.undef
def t56 : Int → List (List D) → Rs := ta56 t57 t91 t92 t93 t94 t95
def zr56 : List DV := [.one (.b false)]
def zo56 : List (List D) := []
def A56 : List TA := [.agg [.i .i64, .l]]
def v56 (vs : List Vr) : Rs := t56 (vI vs 0) (vL vs 1)
def g56 (xs : List DV) : Bool × List DV × List (List D) := gOf zr56 zo56 (argsT A56 v56 xs)
abbrev Y56 := Int → List (List D) → Rs
def la58o1 (t57 : Y57) (l6 : List (List D)) (b7 : Bool) (b9 : Bool) (q1 : Int → Bool → Bool → Int → Int → Int → Int → Int → Rs) (q2 : Int → Bool → SV → Rs) : Nat → Int → SV → SV → Rs
  | 0, _, _, _ => none
  | m + 1, n8, v10, v11 =>
    let y1 := decide (n8 < (l6.length : Int))
    if y1 then
     let y2 := l6.getD n8.toNat []
     chk (decide (0 ≤ n8) && decide (n8 < l6.length) && isRow z90 y2) <|
     let y3 := asI (nthD y2 0)
     let y4 := t57 y3 (1 : Int) (100000 : Int)
     chk (okR zr57 zo57 y4) <|
     let y5 := w64 (n8 - (1 : Int))
     let y6 := l6.getD y5.toNat []
     let y7 := !(asB (resC y4 0 0))
     let y8 := decide (n8 > (0 : Int))
     chk ((decide (0 ≤ y5) && decide (y5 < l6.length) && isRow z90 y6) || !((!y7) && y8)) <|
     let y9 := asI (nthD y2 1)
     let y10 := t57 y9 (1 : Int) (3 : Int)
     let y11 := y7 || (y8 && (decide ((asI (nthD y6 0)) > y3)))
     chk ((okR zr57 zo57 y10) || !(!y11)) <|
     let y12 := asI (nthD y2 2)
     let y13 := t57 y12 (1 : Int) (1000000 : Int)
     let y14 := y11 || (!(asB (resC y10 0 0)))
     chk ((okR zr57 zo57 y13) || !(!y14)) <|
     let y15 := asI (nthD y2 3)
     let y16 := t57 y15 (1 : Int) (22 : Int)
     let y17 := y14 || (!(asB (resC y13 0 0)))
     chk ((okR zr57 zo57 y16) || !(!y17)) <|
     let y18 := asI (nthD y2 4)
     let y19 := t57 y18 (0 : Int) (200 : Int)
     let y20 := y17 || (!(asB (resC y16 0 0)))
     chk ((okR zr57 zo57 y19) || !(!y20)) <|
     let y21 := y20 || (!(asB (resC y19 0 0)))
     if y21 then
      q1 n8 y1 y21 y3 y9 y12 y15 y18
     else
      la58o1 t57 l6 b7 b9 q1 q2 m (w64 (n8 + (1 : Int))) (.d (.b y1)) (.d (.b y21))
    else
     q2 n8 y1 (keepV [] v11)
/-- spec.AuditOk -/
def ta58 (t57 : Y57) (l1 : List (List D)) : Rs :=
  let y1 := decide ((l1.length : Int) > (20 : Int))
  if y1 then
   some ([.one (.b false)], [])
  else
   la58o1 t57 l1 false y1
    (fun (n29 : Int) (b30 : Bool) (b31 : Bool) (n32 : Int) (n33 : Int) (n34 : Int) (n35 : Int) (n36 : Int) =>
     some ([.one (.b false)], []))
    (fun (n37 : Int) (b38 : Bool) (v39 : SV) =>
     some ([.one (.b true)], [])) KK (0 : Int) SV.undef SV.undef
def t58 : List (List D) → Rs := ta58 t57
def zr58 : List DV := [.one (.b false)]
def zo58 : List (List D) := []
def A58 : List TA := [.one (.l)]
def v58 (vs : List Vr) : Rs := t58 (vL vs 0)
def g58 (xs : List DV) : Bool × List DV × List (List D) := gOf zr58 zo58 (argsT A58 v58 xs)
abbrev Y58 := List (List D) → Rs
/-- spec.ResultOk -/
def ta59 (t57 : Y57) (n1 : Int) (s2 : ByteArray) : Rs :=
  let y1 := t57 n1 (0 : Int) (200 : Int)
  chk (okR zr57 zo57 y1) <|
  some ([.one (.b ((asB (resC y1 0 0)) && (decide ((s2.size : Int) ≤ (400 : Int)))))], [])
def t59 : Int → ByteArray → Rs := ta59 t57
def zr59 : List DV := [.one (.b false)]
def zo59 : List (List D) := []
def A59 : List TA := [.agg [.i .i64, .s]]
def v59 (vs : List Vr) : Rs := t59 (vI vs 0) (vS vs 1)
def g59 (xs : List DV) : Bool × List DV × List (List D) := gOf zr59 zo59 (argsT A59 v59 xs)
abbrev Y59 := Int → ByteArray → Rs
def la23o1 (t56 : Y56) (t57 : Y57) (t58 : Y58) (t59 : Y59) (n19 : Int) (l20 : List (List D)) (n21 : Int) (l22 : List (List D)) (l23 : List (List D)) (b24 : Bool) (b26 : Bool) (n29 : Int) (l30 : List (List D)) (n31 : Int) (l32 : List (List D)) (l33 : List (List D)) (q1 : Int → Bool → Bool → Int → Int → Int → Int → ByteArray → Rs) (q2 : Int → Bool → SV → Rs) : Nat → Int → SV → SV → Rs
  | 0, _, _, _ => none
  | m + 1, n25, v27, v28 =>
    let y1 := decide (n25 < (l33.length : Int))
    if y1 then
     let y2 := l33.getD n25.toNat []
     chk (decide (0 ≤ n25) && decide (n25 < l33.length) && isRow z81 y2) <|
     let y3 := asI (nthD y2 0)
     let y4 := t57 y3 (1 : Int) (3 : Int)
     chk (okR zr57 zo57 y4) <|
     let y5 := w64 (n25 - (1 : Int))
     let y6 := l33.getD y5.toNat []
     let y7 := !(asB (resC y4 0 0))
     let y8 := decide (n25 > (0 : Int))
     chk ((decide (0 ≤ y5) && decide (y5 < l33.length) && isRow z81 y6) || !((!y7) && y8)) <|
     let y9 := asI (nthD y2 1)
     let y10 := t57 y9 (1 : Int) (1000000 : Int)
     let y11 := y7 || (y8 && (decide ((asI (nthD y6 0)) ≥ y3)))
     chk ((okR zr57 zo57 y10) || !(!y11)) <|
     let y12 := asI (nthD y2 2)
     let y13 := t57 y12 (1 : Int) (100000 : Int)
     let y14 := y11 || (!(asB (resC y10 0 0)))
     chk ((okR zr57 zo57 y13) || !(!y14)) <|
     let y15 := asI (nthD y2 3)
     let y16 := asS (nthD y2 4)
     let y17 := t59 y15 y16
     let y18 := y14 || (!(asB (resC y13 0 0)))
     chk ((okR zr59 zo59 y17) || !(!y18)) <|
     let y19 := y18 || (!(asB (resC y17 0 0)))
     if y19 then
      q1 n25 y1 y19 y3 y9 y12 y15 y16
     else
      la23o1 t56 t57 t58 t59 n19 l20 n21 l22 l23 b24 b26 n29 l30 n31 l32 l33 q1 q2 m (w64 (n25 + (1 : Int))) (.d (.b y1)) (.d (.b y19))
    else
     q2 n25 y1 (keepV [64] v28)
/-- spec.TenantOk -/
def ta23 (t56 : Y56) (t57 : Y57) (t58 : Y58) (t59 : Y59) (n1 : Int) (l2 : List (List D)) (n3 : Int) (l4 : List (List D)) (l5 : List (List D)) : Rs :=
  chk (okR zr56 zo56 (t56 n1 l2)) <|
  let y1 := t57 n3 (0 : Int) (30 : Int)
  let y2 := !(asB (resC (t56 n1 l2) 0 0))
  chk ((okR zr57 zo57 y1) || !(!y2)) <|
  let y3 := y2 || (!(asB (resC y1 0 0)))
  chk ((okR zr58 zo58 (t58 l4)) || !(!y3)) <|
  let y4 := (y3 || (!(asB (resC (t58 l4) 0 0)))) || (decide ((l5.length : Int) > (3 : Int)))
  if y4 then
   some ([.one (.b false)], [])
  else
   la23o1 t56 t57 t58 t59 n1 l2 n3 l4 l5 false y4 n1 l2 n3 l4 l5
    (fun (n60 : Int) (b61 : Bool) (b62 : Bool) (n63 : Int) (n64 : Int) (n65 : Int) (n66 : Int) (s67 : ByteArray) =>
     some ([.one (.b false)], []))
    (fun (n68 : Int) (b69 : Bool) (v70 : SV) =>
     some ([.one (.b true)], [])) KK (0 : Int) SV.undef SV.undef
def t23 : Int → List (List D) → Int → List (List D) → List (List D) → Rs := ta23 t56 t57 t58 t59
def zr23 : List DV := [.one (.b false)]
def zo23 : List (List D) := []
def A23 : List TA := [.agg [.i .i64, .l, .i .i64, .l, .l]]
def v23 (vs : List Vr) : Rs := t23 (vI vs 0) (vL vs 1) (vI vs 2) (vL vs 3) (vL vs 4)
def g23 (xs : List DV) : Bool × List DV × List (List D) := gOf zr23 zo23 (argsT A23 v23 xs)
abbrev Y23 := Int → List (List D) → Int → List (List D) → List (List D) → Rs
def l111o0 (n11 : Int) (l12 : List (List D)) (n15 : Int) (l16 : List (List D)) (n17 : Int) (n18 : Int) (q1 : Int → Bool → List (List D) → Rs) : Nat → Int → SV → List (List D) → Rs
  | 0, _, _, _ => none
  | m + 1, n13, v14, l19 =>
    let y1 := decide (n13 < (l16.length : Int))
    if y1 then
     let y2 := l16.getD n13.toNat []
     chk (decide (0 ≤ n13) && decide (n13 < l16.length) && isRow z64 y2) <|
     let y3 := asL (nthD y2 6)
     chk ((flatR 2 y3) && decide (([] : List (List D)).length + y3.length ≤ lim)) <|
     let y4 := ([[.i .i64 (asI (nthD y2 0)), .i .i64 (asI (nthD y2 1)), .i .i64 (asI (nthD y2 2)), .i .i64 (asI (nthD y2 3)), .i .i64 (asI (nthD y2 4)), .s (asS (nthD y2 5)), .l (([] : List (List D)) ++ y3), .i .i64 (asI (nthD y2 7)), .i .i64 (asI (nthD y2 8))]] : List (List D))
     chk (true && decide (l19.length + y4.length ≤ lim)) <|
     l111o0 n11 l12 n15 l16 n17 n18 q1 m (w64 (n13 + (1 : Int))) (.d (.b y1)) (l19 ++ y4)
    else
     q1 n13 y1 l19
/-- spec.l4Copy -/
def t111 (n1 : Int) (l2 : List (List D)) : Rs :=
  l111o0 n1 l2 n1 l2 (0 : Int) n1
   (fun (n32 : Int) (b33 : Bool) (l34 : List (List D)) =>
    some ([.agg [.i .i64 n1, .l l34]], [])) KK (0 : Int) SV.undef ([] : List (List D))
def zr111 : List DV := [.agg [.i .i64 0, .l []]]
def zo111 : List (List D) := []
def A111 : List TA := [.agg [.i .i64, .l]]
def v111 (vs : List Vr) : Rs := t111 (vI vs 0) (vL vs 1)
def g111 (xs : List DV) : Bool × List DV × List (List D) := gOf zr111 zo111 (argsT A111 v111 xs)
abbrev Y111 := Int → List (List D) → Rs
/-- spec.l10Copy -/
def ta73 (t111 : Y111) (n1 : Int) (l2 : List (List D)) (n3 : Int) (l4 : List (List D)) (l5 : List (List D)) : Rs :=
  chk (okR zr111 zo111 (t111 n1 l2)) <|
  chk ((flatR 5 l4) && decide (([] : List (List D)).length + l4.length ≤ lim)) <|
  chk ((flatR 5 l5) && decide (([] : List (List D)).length + l5.length ≤ lim)) <|
  some ([.agg [.i .i64 (asI (resC (t111 n1 l2) 0 0)), .l (asL (resC (t111 n1 l2) 0 1)), .i .i64 n3, .l (([] : List (List D)) ++ l4), .l (([] : List (List D)) ++ l5)]], [])
def t73 : Int → List (List D) → Int → List (List D) → List (List D) → Rs := ta73 t111
def zr73 : List DV := [.agg [.i .i64 0, .l [], .i .i64 0, .l [], .l []]]
def zo73 : List (List D) := []
def A73 : List TA := [.agg [.i .i64, .l, .i .i64, .l, .l]]
def v73 (vs : List Vr) : Rs := t73 (vI vs 0) (vL vs 1) (vI vs 2) (vL vs 3) (vL vs 4)
def g73 (xs : List DV) : Bool × List DV × List (List D) := gOf zr73 zo73 (argsT A73 v73 xs)
abbrev Y73 := Int → List (List D) → Int → List (List D) → List (List D) → Rs
/-- spec.Refill -/
def t74 (n1 : Int) : Rs :=
  if decide (n1 < (0 : Int)) then
   some ([.one (.i .i64 (4 : Int))], [])
  else
   if decide (n1 ≥ (26 : Int)) then
    some ([.one (.i .i64 (30 : Int))], [])
   else
    some ([.one (.i .i64 (w64 (n1 + (4 : Int))))], [])
def zr74 : List DV := [.one (.i .i64 0)]
def zo74 : List (List D) := []
def A74 : List TA := [.one (.i .i64)]
def v74 (vs : List Vr) : Rs := t74 (vI vs 0)
def g74 (xs : List DV) : Bool × List DV × List (List D) := gOf zr74 zo74 (argsT A74 v74 xs)
abbrev Y74 := Int → Rs
/-- spec.TenantTick -/
def ta34 (t23 : Y23) (t73 : Y73) (t74 : Y74) (n1 : Int) (l2 : List (List D)) (n3 : Int) (l4 : List (List D)) (l5 : List (List D)) : Rs :=
  let y1 := t23 n1 l2 n3 l4 l5
  chk (okR zr23 zo23 y1) <|
  if !(asB (resC y1 0 0)) then
   some ([.agg [.i .i64 (0 : Int), .l ([] : List (List D)), .i .i64 (0 : Int), .l ([] : List (List D)), .l ([] : List (List D))]], [])
  else
   let y2 := t73 n1 l2 n3 l4 l5
   chk (okR zr73 zo73 y2) <|
   let y3 := t74 (asI (resC y2 0 2))
   chk (okR zr74 zo74 y3) <|
   some ([.agg [.i .i64 (asI (resC y2 0 0)), .l (asL (resC y2 0 1)), .i .i64 (asI (resC y3 0 0)), .l (asL (resC y2 0 3)), .l (asL (resC y2 0 4))]], [])
def t34 : Int → List (List D) → Int → List (List D) → List (List D) → Rs := ta34 t23 t73 t74
def zr34 : List DV := [.agg [.i .i64 0, .l [], .i .i64 0, .l [], .l []]]
def zo34 : List (List D) := []
def A34 : List TA := [.agg [.i .i64, .l, .i .i64, .l, .l]]
def v34 (vs : List Vr) : Rs := t34 (vI vs 0) (vL vs 1) (vI vs 2) (vL vs 3) (vL vs 4)
def g34 (xs : List DV) : Bool × List DV × List (List D) := gOf zr34 zo34 (argsT A34 v34 xs)
abbrev Y34 := Int → List (List D) → Int → List (List D) → List (List D) → Rs
/-- impl.within -/
def t63 (n1 : Int) (n2 : Int) (n3 : Int) : Rs :=
  some ([.one (.b ((decide (n1 ≥ n2)) && (decide (n1 ≤ n3))))], [])
def zr63 : List DV := [.one (.b false)]
def zo63 : List (List D) := []
def A63 : List TA := [.one (.i .i64), .one (.i .i64), .one (.i .i64)]
def v63 (vs : List Vr) : Rs := t63 (vI vs 0) (vI vs 1) (vI vs 2)
def g63 (xs : List DV) : Bool × List DV × List (List D) := gOf zr63 zo63 (argsT A63 v63 xs)
abbrev Y63 := Int → Int → Int → Rs
/-- impl.ResultOk -/
def ta64 (t63 : Y63) (n1 : Int) (s2 : ByteArray) : Rs :=
  let y1 := t63 n1 (0 : Int) (200 : Int)
  chk (okR zr63 zo63 y1) <|
  some ([.one (.b ((asB (resC y1 0 0)) && (decide ((s2.size : Int) ≤ (400 : Int)))))], [])
def t64 : Int → ByteArray → Rs := ta64 t63
def zr64 : List DV := [.one (.b false)]
def zo64 : List (List D) := []
def A64 : List TA := [.agg [.i .i64, .s]]
def v64 (vs : List Vr) : Rs := t64 (vI vs 0) (vS vs 1)
def g64 (xs : List DV) : Bool × List DV × List (List D) := gOf zr64 zo64 (argsT A64 v64 xs)
abbrev Y64 := Int → ByteArray → Rs
def la65o0 (t63 : Y63) (l7 : List (List D)) (b8 : Bool) (l10 : List (List D)) (n11 : Int) (q1 : Int → Bool → Bool → Int → Int → Int → Int → Int → Rs) (q2 : SV → Int → Bool → SV → Rs) : Nat → SV → Int → SV → SV → Rs
  | 0, _, _, _, _ => none
  | m + 1, v9, n12, v13, v14 =>
    let y1 := decide (n12 < n11)
    if y1 then
     let y2 := l10.getD n12.toNat []
     chk (decide (0 ≤ n12) && decide (n12 < l10.length) && isRow z90 y2) <|
     let y3 := asI (nthD y2 0)
     let y4 := t63 y3 (1 : Int) (100000 : Int)
     chk (okR zr63 zo63 y4) <|
     let y5 := w64 (n12 - (1 : Int))
     let y6 := l7.getD y5.toNat []
     let y7 := !(asB (resC y4 0 0))
     let y8 := decide (n12 > (0 : Int))
     chk ((decide (0 ≤ y5) && decide (y5 < l7.length) && isRow z90 y6) || !((!y7) && y8)) <|
     let y9 := asI (nthD y2 1)
     let y10 := t63 y9 (1 : Int) (3 : Int)
     let y11 := y7 || (y8 && (decide ((asI (nthD y6 0)) > y3)))
     chk ((okR zr63 zo63 y10) || !(!y11)) <|
     let y12 := asI (nthD y2 2)
     let y13 := t63 y12 (1 : Int) (1000000 : Int)
     let y14 := y11 || (!(asB (resC y10 0 0)))
     chk ((okR zr63 zo63 y13) || !(!y14)) <|
     let y15 := asI (nthD y2 3)
     let y16 := t63 y15 (1 : Int) (22 : Int)
     let y17 := y14 || (!(asB (resC y13 0 0)))
     chk ((okR zr63 zo63 y16) || !(!y17)) <|
     let y18 := asI (nthD y2 4)
     let y19 := t63 y18 (0 : Int) (200 : Int)
     let y20 := y17 || (!(asB (resC y16 0 0)))
     chk ((okR zr63 zo63 y19) || !(!y20)) <|
     let y21 := y20 || (!(asB (resC y19 0 0)))
     if y21 then
      q1 n12 y1 y21 y3 y9 y12 y15 y18
     else
      la65o0 t63 l7 b8 l10 n11 q1 q2 m (.d (.i .i64 n12)) (w64 (n12 + (1 : Int))) (.d (.b y1)) (.d (.b y21))
    else
     q2 (keepV [] v9) n12 y1 (keepV [] v14)
/-- impl.AuditOk -/
def ta65 (t63 : Y63) (l1 : List (List D)) : Rs :=
  la65o0 t63 l1 false l1 (l1.length : Int)
   (fun (n35 : Int) (b36 : Bool) (b37 : Bool) (n38 : Int) (n39 : Int) (n40 : Int) (n41 : Int) (n42 : Int) =>
    some ([.one (.b false)], []))
   (fun (v43 : SV) (n44 : Int) (b45 : Bool) (v46 : SV) =>
    some ([.one (.b (decide ((l1.length : Int) ≤ (20 : Int))))], [])) KK SV.undef (0 : Int) SV.undef SV.undef
def t65 : List (List D) → Rs := ta65 t63
def zr65 : List DV := [.one (.b false)]
def zo65 : List (List D) := []
def A65 : List TA := [.one (.l)]
def v65 (vs : List Vr) : Rs := t65 (vL vs 0)
def g65 (xs : List DV) : Bool × List DV × List (List D) := gOf zr65 zo65 (argsT A65 v65 xs)
abbrev Y65 := List (List D) → Rs
/-- impl.isNameByte -/
def t141 (n1 : Int) : Rs :=
  some ([.one (.b ((((((decide (n1 ≥ (97 : Int))) && (decide (n1 ≤ (122 : Int)))) || ((decide (n1 ≥ (48 : Int))) && (decide (n1 ≤ (57 : Int))))) || (n1 == (46 : Int))) || (n1 == (95 : Int))) || (n1 == (45 : Int))))], [])
def zr141 : List DV := [.one (.b false)]
def zo141 : List (List D) := []
def A141 : List TA := [.one (.i .u8)]
def v141 (vs : List Vr) : Rs := t141 (vI vs 0)
def g141 (xs : List DV) : Bool × List DV × List (List D) := gOf zr141 zo141 (argsT A141 v141 xs)
abbrev Y141 := Int → Rs
def la130o0 (t63 : Y63) (t141 : Y141) (s6 : ByteArray) (b7 : Bool) (n9 : Int) (q1 : Int → Bool → Bool → Rs) (q2 : SV → Int → Bool → SV → Rs) : Nat → SV → Int → SV → SV → Rs
  | 0, _, _, _, _ => none
  | m + 1, v8, n10, v11, v12 =>
    let y1 := decide (n10 < n9)
    if y1 then
     chk (decide (0 ≤ n10 ∧ n10 < s6.size)) <|
     let y2 := ((s6.get! n10.toNat).toNat) != (47 : Int)
     chk ((decide (0 ≤ n10 ∧ n10 < s6.size)) || !y2) <|
     let y3 := t141 ((s6.get! n10.toNat).toNat)
     chk ((okR zr141 zo141 y3) || !y2) <|
     let y4 := y2 && (!(asB (resC y3 0 0)))
     if y4 then
      q1 n10 y1 y4
     else
      la130o0 t63 t141 s6 b7 n9 q1 q2 m (.d (.i .i64 n10)) (w64 (n10 + (1 : Int))) (.d (.b y1)) (.d (.b y4))
    else
     q2 (keepV [] v8) n10 y1 (keepV [] v12)
/-- impl.isTarget -/
def ta130 (t63 : Y63) (t141 : Y141) (s1 : ByteArray) : Rs :=
  la130o0 t63 t141 s1 false (s1.size : Int)
   (fun (n27 : Int) (b28 : Bool) (b29 : Bool) =>
    some ([.one (.b false)], []))
   (fun (v30 : SV) (n31 : Int) (b32 : Bool) (v33 : SV) =>
    let y1 := t63 (s1.size : Int) (1 : Int) (60 : Int)
    chk (okR zr63 zo63 y1) <|
    some ([.one (.b (asB (resC y1 0 0)))], [])) KK SV.undef (0 : Int) SV.undef SV.undef
def t130 : ByteArray → Rs := ta130 t63 t141
def zr130 : List DV := [.one (.b false)]
def zo130 : List (List D) := []
def A130 : List TA := [.one (.s)]
def v130 (vs : List Vr) : Rs := t130 (vS vs 0)
def g130 (xs : List DV) : Bool × List DV × List (List D) := gOf zr130 zo130 (argsT A130 v130 xs)
abbrev Y130 := ByteArray → Rs
def la142o0 (t63 : Y63) (t141 : Y141) (s6 : ByteArray) (b7 : Bool) (n9 : Int) (q1 : Int → Bool → Bool → Rs) (q2 : SV → Int → Bool → SV → Rs) : Nat → SV → Int → SV → SV → Rs
  | 0, _, _, _, _ => none
  | m + 1, v8, n10, v11, v12 =>
    let y1 := decide (n10 < n9)
    if y1 then
     chk (decide (0 ≤ n10 ∧ n10 < s6.size)) <|
     let y2 := t141 ((s6.get! n10.toNat).toNat)
     chk (okR zr141 zo141 y2) <|
     let y3 := !(asB (resC y2 0 0))
     if y3 then
      q1 n10 y1 y3
     else
      la142o0 t63 t141 s6 b7 n9 q1 q2 m (.d (.i .i64 n10)) (w64 (n10 + (1 : Int))) (.d (.b y1)) (.d (.b y3))
    else
     q2 (keepV [] v8) n10 y1 (keepV [] v12)
/-- impl.NameOk -/
def ta142 (t63 : Y63) (t141 : Y141) (s1 : ByteArray) : Rs :=
  la142o0 t63 t141 s1 false (s1.size : Int)
   (fun (n27 : Int) (b28 : Bool) (b29 : Bool) =>
    some ([.one (.b false)], []))
   (fun (v30 : SV) (n31 : Int) (b32 : Bool) (v33 : SV) =>
    let y1 := t63 (s1.size : Int) (1 : Int) (8 : Int)
    chk (okR zr63 zo63 y1) <|
    some ([.one (.b (((asB (resC y1 0 0)) && (!(s1.toList == (⟨#[46]⟩ : ByteArray).toList))) && (!(s1.toList == (⟨#[46, 46]⟩ : ByteArray).toList))))], [])) KK SV.undef (0 : Int) SV.undef SV.undef
def t142 : ByteArray → Rs := ta142 t63 t141
def zr142 : List DV := [.one (.b false)]
def zo142 : List (List D) := []
def A142 : List TA := [.one (.s)]
def v142 (vs : List Vr) : Rs := t142 (vS vs 0)
def g142 (xs : List DV) : Bool × List DV × List (List D) := gOf zr142 zo142 (argsT A142 v142 xs)
abbrev Y142 := ByteArray → Rs
def l132o0 (n9 : Int) (l10 : List (List D)) (n11 : Int) (n13 : Int) (q1 : Int → Int → Int → Int → Int → ByteArray → List (List D) → Int → Int → Int → Bool → Bool → Rs) (q2 : SV → Int → Bool → SV → Rs) : Nat → SV → Int → SV → SV → Rs
  | 0, _, _, _, _ => none
  | m + 1, v12, n14, v15, v16 =>
    let y1 := decide (n14 < n13)
    if y1 then
     let y2 := l10.getD n14.toNat []
     chk (decide (0 ≤ n14) && decide (n14 < l10.length) && isRow z64 y2) <|
     let y3 := (asI (nthD y2 0)) == n11
     if y3 then
      let y4 := l10.getD n14.toNat []
      chk (decide (0 ≤ n14) && decide (n14 < l10.length) && isRow z64 y4) <|
      q1 (asI (nthD y4 0)) (asI (nthD y4 1)) (asI (nthD y4 2)) (asI (nthD y4 3)) (asI (nthD y4 4)) (asS (nthD y4 5)) (asL (nthD y4 6)) (asI (nthD y4 7)) (asI (nthD y4 8)) n14 y1 y3
     else
      l132o0 n9 l10 n11 n13 q1 q2 m (.d (.i .i64 n14)) (w64 (n14 + (1 : Int))) (.d (.b y1)) (.d (.b y3))
    else
     q2 (keepV [] v12) n14 y1 (keepV [] v16)
/-- (*impl.Vol).inode -/
def t132 (n1 : Int) (l2 : List (List D)) (n3 : Int) : Rs :=
  l132o0 n1 l2 n3 (l2.length : Int)
   (fun (n41 : Int) (n42 : Int) (n43 : Int) (n44 : Int) (n45 : Int) (s46 : ByteArray) (l47 : List (List D)) (n48 : Int) (n49 : Int) (n50 : Int) (b51 : Bool) (b52 : Bool) =>
    some ([.one (.b true), .agg [.i .i64 n41, .i .i64 n42, .i .i64 n43, .i .i64 n44, .i .i64 n45, .s s46, .l l47, .i .i64 n48, .i .i64 n49]], []))
   (fun (v53 : SV) (n54 : Int) (b55 : Bool) (v56 : SV) =>
    some ([.one (.b false), .agg [.i .i64 (0 : Int), .i .i64 (0 : Int), .i .i64 (0 : Int), .i .i64 (0 : Int), .i .i64 (0 : Int), .s (⟨#[]⟩ : ByteArray), .l ([] : List (List D)), .i .i64 (0 : Int), .i .i64 (0 : Int)]], [])) KK SV.undef (0 : Int) SV.undef SV.undef
def zr132 : List DV := [.one (.b false), .agg [.i .i64 0, .i .i64 0, .i .i64 0, .i .i64 0, .i .i64 0, .s ⟨#[]⟩, .l [], .i .i64 0, .i .i64 0]]
def zo132 : List (List D) := []
def A132 : List TA := [.ptr [.i .i64, .l], .one (.i .i64)]
def v132 (vs : List Vr) : Rs := t132 (vI vs 0) (vL vs 1) (vI vs 2)
def g132 (xs : List DV) : Bool × List DV × List (List D) := gOf zr132 zo132 (argsT A132 v132 xs)
abbrev Y132 := Int → List (List D) → Int → Rs
def la131o0 (t132 : Y132) (t142 : Y142) (n36 : Int) (l37 : List (List D)) (n38 : Int) (n39 : Int) (n40 : Int) (n41 : Int) (n42 : Int) (s43 : ByteArray) (l44 : List (List D)) (n45 : Int) (n46 : Int) (b47 : Bool) (l49 : List (List D)) (n50 : Int) (n54 : Int) (n55 : Int) (n56 : Int) (n57 : Int) (n58 : Int) (s59 : ByteArray) (l60 : List (List D)) (n61 : Int) (n62 : Int) (q1 : Int → Bool → Bool → ByteArray → Int → Rs) (q2 : SV → Int → Bool → SV → Rs) : Nat → SV → Int → SV → SV → Rs
  | 0, _, _, _, _ => none
  | m + 1, v48, n51, v52, v53 =>
    let y1 := decide (n51 < n50)
    if y1 then
     let y2 := l49.getD n51.toNat []
     chk (decide (0 ≤ n51) && decide (n51 < l49.length) && isRow z129 y2) <|
     let y3 := asS (nthD y2 0)
     let y4 := t142 y3
     chk (okR zr142 zo142 y4) <|
     let y5 := asI (nthD y2 1)
     let y6 := t132 n36 l37 y5
     let y7 := (!(asB (resC y4 0 0))) || (y5 == (1 : Int))
     chk ((okR zr132 zo132 y6) || !(!y7)) <|
     let y8 := w64 (n51 - (1 : Int))
     let y9 := l60.getD y8.toNat []
     let y10 := y7 || (!(asB (resC y6 0 0)))
     let y11 := decide (n51 > (0 : Int))
     chk ((decide (0 ≤ y8) && decide (y8 < l60.length) && isRow z129 y9) || !((!y10) && y11)) <|
     let y12 := y10 || (y11 && (!(Op.bytesLess (asS (nthD y9 0)).toList y3.toList)))
     if y12 then
      q1 n51 y1 y12 y3 y5
     else
      la131o0 t132 t142 n36 l37 n38 n39 n40 n41 n42 s43 l44 n45 n46 b47 l49 n50 n54 n55 n56 n57 n58 s59 l60 n61 n62 q1 q2 m (.d (.i .i64 n51)) (w64 (n51 + (1 : Int))) (.d (.b y1)) (.d (.b y12))
    else
     q2 (keepV [192] v48) n51 y1 (keepV [192] v53)
/-- (*impl.Vol).namesOk -/
def ta131 (t132 : Y132) (t142 : Y142) (n1 : Int) (l2 : List (List D)) (n3 : Int) (n4 : Int) (n5 : Int) (n6 : Int) (n7 : Int) (s8 : ByteArray) (l9 : List (List D)) (n10 : Int) (n11 : Int) : Rs :=
  la131o0 t132 t142 n1 l2 n3 n4 n5 n6 n7 s8 l9 n10 n11 false l9 (l9.length : Int) n3 n4 n5 n6 n7 s8 l9 n10 n11
   (fun (n99 : Int) (b100 : Bool) (b101 : Bool) (s102 : ByteArray) (n103 : Int) =>
    some ([.one (.b false)], []))
   (fun (v104 : SV) (n105 : Int) (b106 : Bool) (v107 : SV) =>
    some ([.one (.b (decide ((l9.length : Int) ≤ (12 : Int))))], [])) KK SV.undef (0 : Int) SV.undef SV.undef
def t131 : Int → List (List D) → Int → Int → Int → Int → Int → ByteArray → List (List D) → Int → Int → Rs := ta131 t132 t142
def zr131 : List DV := [.one (.b false)]
def zo131 : List (List D) := []
def A131 : List TA := [.ptr [.i .i64, .l], .agg [.i .i64, .i .i64, .i .i64, .i .i64, .i .i64, .s, .l, .i .i64, .i .i64]]
def v131 (vs : List Vr) : Rs := t131 (vI vs 0) (vL vs 1) (vI vs 2) (vI vs 3) (vI vs 4) (vI vs 5) (vI vs 6) (vS vs 7) (vL vs 8) (vI vs 9) (vI vs 10)
def g131 (xs : List DV) : Bool × List DV × List (List D) := gOf zr131 zo131 (argsT A131 v131 xs)
abbrev Y131 := Int → List (List D) → Int → Int → Int → Int → Int → ByteArray → List (List D) → Int → Int → Rs
/-- (*impl.Vol).inodeOk -/
def ta99 (t63 : Y63) (t130 : Y130) (t131 : Y131) (n1 : Int) (l2 : List (List D)) (n3 : Int) (n4 : Int) (n5 : Int) (n6 : Int) (n7 : Int) (s8 : ByteArray) (l9 : List (List D)) (n10 : Int) (n11 : Int) : Rs :=
  let y1 := t63 n5 (0 : Int) (2047 : Int)
  chk (okR zr63 zo63 y1) <|
  let y2 := t63 n6 (0 : Int) (1000 : Int)
  let y3 := !(asB (resC y1 0 0))
  chk ((okR zr63 zo63 y2) || !(!y3)) <|
  let y4 := t63 n7 (0 : Int) (1000 : Int)
  let y5 := y3 || (!(asB (resC y2 0 0)))
  chk ((okR zr63 zo63 y4) || !(!y5)) <|
  if y5 || (!(asB (resC y4 0 0))) then
   some ([.one (.b false)], [])
  else
   if (n4 != (2 : Int)) && (((decide ((l9.length : Int) > (0 : Int))) || (n10 != (0 : Int))) || (n11 != (0 : Int))) then
    some ([.one (.b false)], [])
   else
    if n4 == (1 : Int) then
     some ([.one (.b (decide ((s8.size : Int) ≤ (64 : Int))))], [])
    else
     if n4 == (3 : Int) then
      chk (okR zr130 zo130 (t130 s8)) <|
      some ([.one (.b ((asB (resC (t130 s8) 0 0)) && (n5 == (511 : Int))))], [])
     else
      if n4 == (2 : Int) then
       let y6 := t131 n1 l2 n3 n4 n5 n6 n7 s8 l9 n10 n11
       let y7 := s8.toList == (⟨#[]⟩ : ByteArray).toList
       chk ((okR zr131 zo131 y6) || !y7) <|
       let y8 := t63 n10 (0 : Int) (400 : Int)
       let y9 := y7 && (asB (resC y6 0 0))
       chk ((okR zr63 zo63 y8) || !y9) <|
       let y10 := t63 n11 (0 : Int) (24 : Int)
       let y11 := y9 && (asB (resC y8 0 0))
       chk ((okR zr63 zo63 y10) || !y11) <|
       some ([.one (.b (y11 && (asB (resC y10 0 0))))], [])
      else
       some ([.one (.b false)], [])
def t99 : Int → List (List D) → Int → Int → Int → Int → Int → ByteArray → List (List D) → Int → Int → Rs := ta99 t63 t130 t131
def zr99 : List DV := [.one (.b false)]
def zo99 : List (List D) := []
def A99 : List TA := [.ptr [.i .i64, .l], .agg [.i .i64, .i .i64, .i .i64, .i .i64, .i .i64, .s, .l, .i .i64, .i .i64]]
def v99 (vs : List Vr) : Rs := t99 (vI vs 0) (vL vs 1) (vI vs 2) (vI vs 3) (vI vs 4) (vI vs 5) (vI vs 6) (vS vs 7) (vL vs 8) (vI vs 9) (vI vs 10)
def g99 (xs : List DV) : Bool × List DV × List (List D) := gOf zr99 zo99 (argsT A99 v99 xs)
abbrev Y99 := Int → List (List D) → Int → Int → Int → Int → Int → ByteArray → List (List D) → Int → Int → Rs
def l133o0 (l8 : List (List D)) (n9 : Int) (n10 : Int) (n12 : Int) (q1 : Int → Bool → Bool → Rs) (q2 : SV → Int → Bool → SV → Rs) : Nat → SV → Int → SV → SV → Rs
  | 0, _, _, _, _ => none
  | m + 1, v11, n13, v14, v15 =>
    let y1 := decide (n13 < n12)
    if y1 then
     let y2 := l8.getD n13.toNat []
     chk (decide (0 ≤ n13) && decide (n13 < l8.length) && isRow z3 y2) <|
     let y3 := n9 == (asI (nthD y2 0))
     if y3 then
      q1 n13 y1 y3
     else
      l133o0 l8 n9 n10 n12 q1 q2 m (.d (.i .i64 n13)) (w64 (n13 + (1 : Int))) (.d (.b y1)) (.d (.b y3))
    else
     q2 (keepV [] v11) n13 y1 (keepV [] v15)
/-- slices.Index[[]int,int] -/
def t133 (l1 : List (List D)) (n2 : Int) : Rs :=
  l133o0 l1 n2 (0 : Int) (l1.length : Int)
   (fun (n31 : Int) (b32 : Bool) (b33 : Bool) =>
    some ([.one (.i .i64 n31)], []))
   (fun (v34 : SV) (n35 : Int) (b36 : Bool) (v37 : SV) =>
    some ([.one (.i .i64 (-1 : Int))], [])) KK SV.undef (0 : Int) SV.undef SV.undef
def zr133 : List DV := [.one (.i .i64 0)]
def zo133 : List (List D) := []
def A133 : List TA := [.one (.l), .one (.i .i64)]
def v133 (vs : List Vr) : Rs := t133 (vL vs 0) (vI vs 1)
def g133 (xs : List DV) : Bool × List DV × List (List D) := gOf zr133 zo133 (argsT A133 v133 xs)
abbrev Y133 := List (List D) → Int → Rs
/-- slices.Contains[[]int,int] -/
def ta101 (t133 : Y133) (l1 : List (List D)) (n2 : Int) : Rs :=
  chk (okR zr133 zo133 (t133 l1 n2)) <|
  some ([.one (.b (decide ((asI (resC (t133 l1 n2) 0 0)) ≥ (0 : Int))))], [])
def t101 : List (List D) → Int → Rs := ta101 t133
def zr101 : List DV := [.one (.b false)]
def zo101 : List (List D) := []
def A101 : List TA := [.one (.l), .one (.i .i64)]
def v101 (vs : List Vr) : Rs := t101 (vL vs 0) (vI vs 1)
def g101 (xs : List DV) : Bool × List DV × List (List D) := gOf zr101 zo101 (argsT A101 v101 xs)
abbrev Y101 := List (List D) → Int → Rs
def la100o3 (t101 : Y101) (t132 : Y132) (n99 : Int) (l100 : List (List D)) (n101 : Int) (n102 : Int) (b104 : Bool) (b105 : Bool) (l106 : List (List D)) (n107 : Int) (q1 : SV → Int → Bool → SV → List (List D) → List (List D) → Rs) : Nat → SV → Int → SV → SV → List (List D) → List (List D) → Rs
  | 0, _, _, _, _, _, _ => none
  | m + 1, v103, n108, v109, v110, l111, l112 =>
    let y1 := decide (n108 < n107)
    if y1 then
     let y2 := l106.getD n108.toNat []
     chk (decide (0 ≤ n108) && decide (n108 < l106.length) && isRow z129 y2) <|
     let y3 := asI (nthD y2 1)
     let y4 := t101 l111 y3
     chk (okR zr101 zo101 y4) <|
     let k1 := fun (v113 : SV) (l114 : List (List D)) (l115 : List (List D)) =>
      let y5 := !(asB (resC y4 0 0))
      la100o3 t101 t132 n99 l100 n101 n102 b104 b105 l106 n107 q1 m (keepV [704, 832] v113) (w64 (n108 + (1 : Int))) (.d (.b y1)) (.d (.b y5)) l114 l115
     let y6 := !(asB (resC y4 0 0))
     if y6 then
      let y7 := ([[.i .i64 y3]] : List (List D))
      chk ((flatR 1 y7) && decide (l111.length + y7.length ≤ lim)) <|
      let y8 := ([[.i .i64 y3]] : List (List D))
      chk ((flatR 1 y8) && decide (l112.length + y8.length ≤ lim)) <|
      k1 (killV 3200 (killV 2880 (killV 832 (killV 704 v103)))) (l111 ++ y7) (l112 ++ y8)
     else
      k1 v103 l111 l112
    else
     q1 (keepV [704, 832] v103) n108 y1 (keepV [704, 832] v110) l111 l112
def la100o0 (t101 : Y101) (t132 : Y132) (n68 : Int) (l69 : List (List D)) (n70 : Int) (q1 : Int → SV → Bool → SV → SV → SV → SV → SV → SV → List (List D) → List (List D) → Rs) : Nat → Int → SV → SV → SV → SV → SV → SV → SV → SV → List (List D) → List (List D) → Rs
  | 0, _, _, _, _, _, _, _, _, _, _, _ => none
  | m + 1, n71, v72, v73, v74, v75, v76, v77, v78, v79, l80, l81 =>
    let y1 := decide (n71 < (l81.length : Int))
    if y1 then
     chk (decide (0 ≤ n71) && decide (n71 < l81.length)) <|
     let y2 := l81.getD (n71.toNat) []
     chk (decide (1 ≤ y2.length) && isF z3 0 y2) <|
     let y3 := t132 n68 l69 (asI (nthD y2 0))
     chk (okR zr132 zo132 y3) <|
     let y4 := asB (resC y3 0 0)
     let y5 := !y4
     if y5 then
      let y6 := asI (resC y3 1 0)
      let y7 := asI (resC y3 1 1)
      let y8 := asI (resC y3 1 2)
      let y9 := asI (resC y3 1 3)
      let y10 := asI (resC y3 1 4)
      let y11 := asS (resC y3 1 5)
      let y12 := asL (resC y3 1 6)
      let y13 := asI (resC y3 1 7)
      let y14 := asI (resC y3 1 8)
      la100o0 t101 t132 n68 l69 n70 q1 m (w64 (n71 + (1 : Int))) (SV.op y4 [.i .i64 y6, .i .i64 y7, .i .i64 y8, .i .i64 y9, .i .i64 y10, .s y11, .l y12, .i .i64 y13, .i .i64 y14]) (.d (.b y1)) (.d (.b y5)) (keepV [704, 832] v75) (keepV [704, 832] v76) (keepV [704, 832] v77) (keepV [704, 832] v78) (keepV [704, 832] v79) l80 l81
     else
      chk (y4) <|
      let y15 := asL (resC y3 1 6)
      let y16 := (y15.length : Int)
      let y17 := asI (resC y3 1 0)
      let y18 := asI (resC y3 1 1)
      let y19 := asI (resC y3 1 2)
      let y20 := asI (resC y3 1 3)
      let y21 := asI (resC y3 1 4)
      let y22 := asS (resC y3 1 5)
      let y23 := asI (resC y3 1 7)
      let y24 := asI (resC y3 1 8)
      la100o3 t101 t132 n68 l69 n70 n71 y1 y5 y15 y16
       (fun (v136 : SV) (n137 : Int) (b138 : Bool) (v139 : SV) (l140 : List (List D)) (l141 : List (List D)) =>
        la100o0 t101 t132 n68 l69 n70 q1 m (w64 (n71 + (1 : Int))) (keepV [704, 832] v136) (.d (.b y1)) (.d (.b y5)) (.d (.l y15)) (.d (.i .i64 y16)) (.d (.i .i64 n137)) (.d (.b b138)) (keepV [704, 832] v139) l140 l141) KK (SV.op y4 [.i .i64 y17, .i .i64 y18, .i .i64 y19, .i .i64 y20, .i .i64 y21, .s y22, .l y15, .i .i64 y23, .i .i64 y24]) (0 : Int) v78 v79 l80 l81
    else
     q1 n71 (keepV [704, 832] v72) y1 (keepV [704, 832] v74) (keepV [704, 832] v75) (keepV [704, 832] v76) (keepV [704, 832] v77) (keepV [704, 832] v78) (keepV [704, 832] v79) l80 l81
/-- (*impl.Vol).below -/
def ta100 (t101 : Y101) (t132 : Y132) (n1 : Int) (l2 : List (List D)) (n3 : Int) : Rs :=
  la100o0 t101 t132 n1 l2 n3
   (fun (n181 : Int) (v182 : SV) (b183 : Bool) (v184 : SV) (v185 : SV) (v186 : SV) (v187 : SV) (v188 : SV) (v189 : SV) (l190 : List (List D)) (l191 : List (List D)) =>
    some ([.one (.l l190)], [])) KK (0 : Int) SV.undef SV.undef SV.undef SV.undef SV.undef SV.undef SV.undef SV.undef ([] : List (List D)) ([[.i .i64 n3]] : List (List D))
def t100 : Int → List (List D) → Int → Rs := ta100 t101 t132
def zr100 : List DV := [.one (.l [])]
def zo100 : List (List D) := []
def A100 : List TA := [.ptr [.i .i64, .l], .one (.i .i64)]
def v100 (vs : List Vr) : Rs := t100 (vI vs 0) (vL vs 1) (vI vs 2)
def g100 (xs : List DV) : Bool × List DV × List (List D) := gOf zr100 zo100 (argsT A100 v100 xs)
abbrev Y100 := Int → List (List D) → Int → Rs
def l102o2 (n127 : Int) (l128 : List (List D)) (n129 : Int) (n130 : Int) (l132 : List (List D)) (n133 : Int) (n134 : Int) (b135 : Bool) (l136 : List (List D)) (n137 : Int) (n141 : Int) (n142 : Int) (n143 : Int) (n144 : Int) (n145 : Int) (s146 : ByteArray) (l147 : List (List D)) (n148 : Int) (n149 : Int) (q1 : Int → Int → Bool → SV → Rs) : Nat → Int → Int → SV → SV → Rs
  | 0, _, _, _, _ => none
  | m + 1, n131, n138, v139, v140 =>
    let y1 := decide (n138 < n137)
    if y1 then
     let y2 := l136.getD n138.toNat []
     chk (decide (0 ≤ n138) && decide (n138 < l136.length) && isRow z129 y2) <|
     let k1 := fun (n150 : Int) =>
      let y3 := (asI (nthD y2 1)) == n129
      l102o2 n127 l128 n129 n130 l132 n133 n134 b135 l136 n137 n141 n142 n143 n144 n145 s146 l147 n148 n149 q1 m n150 (w64 (n138 + (1 : Int))) (.d (.b y1)) (.d (.b y3))
     let y4 := (asI (nthD y2 1)) == n129
     if y4 then
      k1 (w64 (n131 + (1 : Int)))
     else
      k1 n131
    else
     q1 n131 n138 y1 (keepV [448] v140)
def l102o0 (n89 : Int) (l90 : List (List D)) (n91 : Int) (n92 : Int) (l94 : List (List D)) (n95 : Int) (q1 : Int → Int → Bool → SV → SV → SV → SV → SV → Rs) : Nat → Int → Int → SV → SV → SV → SV → SV → SV → Rs
  | 0, _, _, _, _, _, _, _, _ => none
  | m + 1, n93, n96, v97, v98, v99, v100, v101, v102 =>
    let y1 := decide (n96 < n95)
    if y1 then
     let y2 := l94.getD n96.toNat []
     chk (decide (0 ≤ n96) && decide (n96 < l94.length) && isRow z64 y2) <|
     let y3 := asL (nthD y2 6)
     let y4 := (y3.length : Int)
     l102o2 n89 l90 n91 n92 l94 n95 n96 y1 y3 y4 (asI (nthD y2 0)) (asI (nthD y2 1)) (asI (nthD y2 2)) (asI (nthD y2 3)) (asI (nthD y2 4)) (asS (nthD y2 5)) y3 (asI (nthD y2 7)) (asI (nthD y2 8))
      (fun (n178 : Int) (n179 : Int) (b180 : Bool) (v181 : SV) =>
       l102o0 n89 l90 n91 n92 l94 n95 q1 m n178 (w64 (n96 + (1 : Int))) (.d (.b y1)) (.d (.l y3)) (.d (.i .i64 y4)) (.d (.i .i64 n179)) (.d (.b b180)) (keepV [] v181)) KK n93 (0 : Int) v101 v102
    else
     q1 n93 n96 y1 (keepV [] v98) (keepV [] v99) (keepV [] v100) (keepV [] v101) (keepV [] v102)
/-- (*impl.Vol).named -/
def t102 (n1 : Int) (l2 : List (List D)) (n3 : Int) : Rs :=
  l102o0 n1 l2 n3 (0 : Int) l2 (l2.length : Int)
   (fun (n204 : Int) (n205 : Int) (b206 : Bool) (v207 : SV) (v208 : SV) (v209 : SV) (v210 : SV) (v211 : SV) =>
    some ([.one (.i .i64 n204)], [])) KK (0 : Int) (0 : Int) SV.undef SV.undef SV.undef SV.undef SV.undef SV.undef
def zr102 : List DV := [.one (.i .i64 0)]
def zo102 : List (List D) := []
def A102 : List TA := [.ptr [.i .i64, .l], .one (.i .i64)]
def v102 (vs : List Vr) : Rs := t102 (vI vs 0) (vL vs 1) (vI vs 2)
def g102 (xs : List DV) : Bool × List DV × List (List D) := gOf zr102 zo102 (argsT A102 v102 xs)
abbrev Y102 := Int → List (List D) → Int → Rs
def l103o0 (n10 : Int) (l11 : List (List D)) (n12 : Int) (l14 : List (List D)) (n15 : Int) (q1 : Int → Int → Bool → Rs) : Nat → Int → Int → SV → Rs
  | 0, _, _, _ => none
  | m + 1, n13, n16, v17 =>
    let y1 := decide (n16 < n15)
    if y1 then
     let y2 := l14.getD n16.toNat []
     chk (decide (0 ≤ n16) && decide (n16 < l14.length) && isRow z64 y2) <|
     l103o0 n10 l11 n12 l14 n15 q1 m (w64 (n13 + ((asS (nthD y2 5)).size : Int))) (w64 (n16 + (1 : Int))) (.d (.b y1))
    else
     q1 n13 n16 y1
/-- (*impl.Vol).total -/
def t103 (n1 : Int) (l2 : List (List D)) : Rs :=
  l103o0 n1 l2 (0 : Int) l2 (l2.length : Int)
   (fun (n29 : Int) (n30 : Int) (b31 : Bool) =>
    some ([.one (.i .i64 n29)], [])) KK (0 : Int) (0 : Int) SV.undef
def zr103 : List DV := [.one (.i .i64 0)]
def zo103 : List (List D) := []
def A103 : List TA := [.ptr [.i .i64, .l]]
def v103 (vs : List Vr) : Rs := t103 (vI vs 0) (vL vs 1)
def g103 (xs : List DV) : Bool × List DV × List (List D) := gOf zr103 zo103 (argsT A103 v103 xs)
abbrev Y103 := Int → List (List D) → Rs
def la135o0 (t100 : Y100) (t132 : Y132) (n14 : Int) (l15 : List (List D)) (n16 : Int) (n17 : Int) (n18 : Int) (n22 : Int) (l26 : List (List D)) (q1 : Int → SV → SV → Int → Bool → SV → Rs) : Nat → Int → SV → SV → Int → SV → SV → Rs
  | 0, _, _, _, _, _, _ => none
  | m + 1, n19, v20, v21, n23, v24, v25 =>
    let y1 := decide (n23 < n22)
    if y1 then
     chk (decide (0 ≤ n23) && decide (n23 < l26.length)) <|
     let y2 := l26.getD (n23.toNat) []
     chk (decide (1 ≤ y2.length) && isF z3 0 y2) <|
     let y3 := asI (nthD y2 0)
     let y4 := t132 n14 l15 y3
     chk (okR zr132 zo132 y4) <|
     let k1 := fun (n27 : Int) =>
      let y5 := asB (resC y4 0 0)
      let y6 := asS (resC y4 1 5)
      let y7 := !(!y5)
      la135o0 t100 t132 n14 l15 n16 n17 n18 n22 l26 q1 m n27 (.d (.i .i64 y3)) (SV.op y5 [.i .i64 (asI (resC y4 1 0)), .i .i64 (asI (resC y4 1 1)), .i .i64 (asI (resC y4 1 2)), .i .i64 (asI (resC y4 1 3)), .i .i64 (asI (resC y4 1 4)), .s y6, .l (asL (resC y4 1 6)), .i .i64 (asI (resC y4 1 7)), .i .i64 (asI (resC y4 1 8))]) (w64 (n23 + (1 : Int))) (.d (.b y1)) (.d (.b y7))
     let y8 := asB (resC y4 0 0)
     let y9 := !(!y8)
     if y9 then
      chk (y8) <|
      let y10 := asS (resC y4 1 5)
      k1 (w64 (n19 + (y10.size : Int)))
     else
      k1 n19
    else
     q1 n19 (keepV [832] v20) (keepV [832] v21) n23 y1 (keepV [832] v25)
/-- (*impl.Vol).usage -/
def ta135 (t100 : Y100) (t132 : Y132) (n1 : Int) (l2 : List (List D)) (n3 : Int) : Rs :=
  let y1 := t100 n1 l2 n3
  chk (okR zr100 zo100 y1) <|
  let y2 := asL (resC y1 0 0)
  la135o0 t100 t132 n1 l2 n3 (0 : Int) (0 : Int) (y2.length : Int) y2
   (fun (n47 : Int) (v48 : SV) (v49 : SV) (n50 : Int) (b51 : Bool) (v52 : SV) =>
    some ([.one (.i .i64 n47), .one (.i .i64 (y2.length : Int))], [])) KK (0 : Int) SV.undef SV.undef (0 : Int) SV.undef SV.undef
def t135 : Int → List (List D) → Int → Rs := ta135 t100 t132
def zr135 : List DV := [.one (.i .i64 0), .one (.i .i64 0)]
def zo135 : List (List D) := []
def A135 : List TA := [.ptr [.i .i64, .l], .one (.i .i64)]
def v135 (vs : List Vr) : Rs := t135 (vI vs 0) (vL vs 1) (vI vs 2)
def g135 (xs : List DV) : Bool × List DV × List (List D) := gOf zr135 zo135 (argsT A135 v135 xs)
abbrev Y135 := Int → List (List D) → Int → Rs
/-- (*impl.Vol).isOver -/
def ta105 (t135 : Y135) (n1 : Int) (l2 : List (List D)) (n3 : Int) (n4 : Int) (n5 : Int) (n6 : Int) (n7 : Int) (s8 : ByteArray) (l9 : List (List D)) (n10 : Int) (n11 : Int) : Rs :=
  let y1 := t135 n1 l2 n3
  chk (okR zr135 zo135 y1) <|
  some ([.one (.b (((decide (n10 > (0 : Int))) && (decide ((asI (resC y1 0 0)) > n10))) || ((decide (n11 > (0 : Int))) && (decide ((asI (resC y1 1 0)) > n11)))))], [])
def t105 : Int → List (List D) → Int → Int → Int → Int → Int → ByteArray → List (List D) → Int → Int → Rs := ta105 t135
def zr105 : List DV := [.one (.b false)]
def zo105 : List (List D) := []
def A105 : List TA := [.ptr [.i .i64, .l], .agg [.i .i64, .i .i64, .i .i64, .i .i64, .i .i64, .s, .l, .i .i64, .i .i64]]
def v105 (vs : List Vr) : Rs := t105 (vI vs 0) (vL vs 1) (vI vs 2) (vI vs 3) (vI vs 4) (vI vs 5) (vI vs 6) (vS vs 7) (vL vs 8) (vI vs 9) (vI vs 10)
def g105 (xs : List DV) : Bool × List DV × List (List D) := gOf zr105 zo105 (argsT A105 v105 xs)
abbrev Y105 := Int → List (List D) → Int → Int → Int → Int → Int → ByteArray → List (List D) → Int → Int → Rs
def la134o0 (t105 : Y105) (l10 : List (List D)) (n11 : Int) (l12 : List (List D)) (n13 : Int) (n15 : Int) (q1 : Int → Bool → Bool → Rs) (q2 : SV → Int → Bool → SV → Rs) : Nat → SV → Int → SV → SV → Rs
  | 0, _, _, _, _ => none
  | m + 1, v14, n16, v17, v18 =>
    let y1 := decide (n16 < n15)
    if y1 then
     let y2 := l10.getD n16.toNat []
     chk (decide (0 ≤ n16) && decide (n16 < l10.length) && isRow z64 y2) <|
     let y3 := t105 n11 l12 (asI (nthD y2 0)) (asI (nthD y2 1)) (asI (nthD y2 2)) (asI (nthD y2 3)) (asI (nthD y2 4)) (asS (nthD y2 5)) (asL (nthD y2 6)) (asI (nthD y2 7)) (asI (nthD y2 8))
     chk (okR zr105 zo105 y3) <|
     let y4 := asB (resC y3 0 0)
     if y4 then
      q1 n16 y1 y4
     else
      la134o0 t105 l10 n11 l12 n13 n15 q1 q2 m (.d (.i .i64 n16)) (w64 (n16 + (1 : Int))) (.d (.b y1)) (.d (.b y4))
    else
     q2 (keepV [] v14) n16 y1 (keepV [] v18)
/-- slices.IndexFunc[[]impl.Inode,impl.Inode] -/
def ta134 (t105 : Y105) (l1 : List (List D)) (n2 : Int) (l3 : List (List D)) : Rs :=
  la134o0 t105 l1 n2 l3 (0 : Int) (l1.length : Int)
   (fun (n35 : Int) (b36 : Bool) (b37 : Bool) =>
    some ([.one (.i .i64 n35)], []))
   (fun (v38 : SV) (n39 : Int) (b40 : Bool) (v41 : SV) =>
    some ([.one (.i .i64 (-1 : Int))], [])) KK SV.undef (0 : Int) SV.undef SV.undef
def t134 : List (List D) → Int → List (List D) → Rs := ta134 t105
def zr134 : List DV := [.one (.i .i64 0)]
def zo134 : List (List D) := []
def A134 : List TA := [.one (.l), .ptr [.i .i64, .l]]
def v134 (vs : List Vr) : Rs := t134 (vL vs 0) (vI vs 1) (vL vs 2)
def g134 (xs : List DV) : Bool × List DV × List (List D) := gOf zr134 zo134 (argsT A134 v134 xs)
abbrev Y134 := List (List D) → Int → List (List D) → Rs
/-- slices.ContainsFunc[[]impl.Inode,impl.Inode] -/
def ta104 (t134 : Y134) (l1 : List (List D)) (n2 : Int) (l3 : List (List D)) : Rs :=
  let y1 := t134 l1 n2 l3
  chk (okR zr134 zo134 y1) <|
  some ([.one (.b (decide ((asI (resC y1 0 0)) ≥ (0 : Int))))], [])
def t104 : List (List D) → Int → List (List D) → Rs := ta104 t134
def zr104 : List DV := [.one (.b false)]
def zo104 : List (List D) := []
def A104 : List TA := [.one (.l), .ptr [.i .i64, .l]]
def v104 (vs : List Vr) : Rs := t104 (vL vs 0) (vI vs 1) (vL vs 2)
def g104 (xs : List DV) : Bool × List DV × List (List D) := gOf zr104 zo104 (argsT A104 v104 xs)
abbrev Y104 := List (List D) → Int → List (List D) → Rs
def la66o4 (t63 : Y63) (t99 : Y99) (t100 : Y100) (t101 : Y101) (t102 : Y102) (t103 : Y103) (t104 : Y104) (n84 : Int) (l85 : List (List D)) (b86 : Bool) (b88 : Bool) (l89 : List (List D)) (n90 : Int) (n91 : Int) (b92 : Bool) (l94 : List (List D)) (n95 : Int) (n99 : Int) (l100 : List (List D)) (l101 : List (List D)) (q1 : SV → SV → Int → Bool → Bool → Int → Int → Int → Int → Int → ByteArray → List (List D) → Int → Int → Rs) (q2 : SV → SV → Int → Bool → SV → Rs) : Nat → SV → SV → Int → SV → SV → Rs
  | 0, _, _, _, _, _ => none
  | m + 1, v87, v93, n96, v97, v98 =>
    let y1 := decide (n96 < n95)
    if y1 then
     let y2 := l94.getD n96.toNat []
     chk (decide (0 ≤ n96) && decide (n96 < l94.length) && isRow z64 y2) <|
     let y3 := asI (nthD y2 0)
     let y4 := t101 l101 y3
     chk (okR zr101 zo101 y4) <|
     let y5 := t102 n99 l100 y3
     let y6 := !(asB (resC y4 0 0))
     let y7 := asI (nthD y2 1)
     let y8 := y7 == (2 : Int)
     chk ((okR zr102 zo102 y5) || !((!y6) && y8)) <|
     let y9 := y6 || (y8 && ((asI (resC y5 0 0)) != (1 : Int)))
     if y9 then
      q1 v87 v93 n96 y1 y9 y3 y7 (asI (nthD y2 2)) (asI (nthD y2 3)) (asI (nthD y2 4)) (asS (nthD y2 5)) (asL (nthD y2 6)) (asI (nthD y2 7)) (asI (nthD y2 8))
     else
      la66o4 t63 t99 t100 t101 t102 t103 t104 n84 l85 b86 b88 l89 n90 n91 b92 l94 n95 n99 l100 l101 q1 q2 m (keepV [64, 4608] v87) (keepV [64, 4608] v93) (w64 (n96 + (1 : Int))) (.d (.b y1)) (.d (.b y9))
    else
     q2 (keepV [64, 4608] v87) (keepV [64, 4608] v93) n96 y1 (keepV [64, 4608] v98)
def la66o1 (t63 : Y63) (t99 : Y99) (t100 : Y100) (t101 : Y101) (t102 : Y102) (t103 : Y103) (t104 : Y104) (n12 : Int) (l13 : List (List D)) (b14 : Bool) (b16 : Bool) (l17 : List (List D)) (n18 : Int) (n22 : Int) (l23 : List (List D)) (q1 : Int → Bool → Bool → Int → Int → Int → Int → Int → ByteArray → List (List D) → Int → Int → Rs) (q2 : SV → Int → Bool → SV → Rs) : Nat → SV → Int → SV → SV → Rs
  | 0, _, _, _, _ => none
  | m + 1, v15, n19, v20, v21 =>
    let y1 := decide (n19 < n18)
    if y1 then
     let y2 := l17.getD n19.toNat []
     chk (decide (0 ≤ n19) && decide (n19 < l17.length) && isRow z64 y2) <|
     let y3 := asI (nthD y2 0)
     let y4 := t63 y3 (1 : Int) (w64 (n22 - (1 : Int)))
     chk (okR zr63 zo63 y4) <|
     let y5 := w64 (n19 - (1 : Int))
     let y6 := l23.getD y5.toNat []
     let y7 := !(asB (resC y4 0 0))
     let y8 := decide (n19 > (0 : Int))
     chk ((decide (0 ≤ y5) && decide (y5 < l23.length) && isRow z64 y6) || !((!y7) && y8)) <|
     let y9 := asI (nthD y2 1)
     let y10 := asI (nthD y2 2)
     let y11 := asI (nthD y2 3)
     let y12 := asI (nthD y2 4)
     let y13 := asS (nthD y2 5)
     let y14 := asL (nthD y2 6)
     let y15 := asI (nthD y2 7)
     let y16 := asI (nthD y2 8)
     let y17 := t99 n22 l23 y3 y9 y10 y11 y12 y13 y14 y15 y16
     let y18 := y7 || (y8 && (decide ((asI (nthD y6 0)) ≥ y3)))
     chk ((okR zr99 zo99 y17) || !(!y18)) <|
     let y19 := y18 || (!(asB (resC y17 0 0)))
     if y19 then
      q1 n19 y1 y19 y3 y9 y10 y11 y12 y13 y14 y15 y16
     else
      la66o1 t63 t99 t100 t101 t102 t103 t104 n12 l13 b14 b16 l17 n18 n22 l23 q1 q2 m (.d (.i .i64 n19)) (w64 (n19 + (1 : Int))) (.d (.b y1)) (.d (.b y19))
    else
     q2 (keepV [64] v15) n19 y1 (keepV [64] v21)
/-- impl.VolOk -/
def ta66 (t63 : Y63) (t99 : Y99) (t100 : Y100) (t101 : Y101) (t102 : Y102) (t103 : Y103) (t104 : Y104) (n1 : Int) (l2 : List (List D)) : Rs :=
  let y1 := t63 n1 (2 : Int) (100000 : Int)
  chk (okR zr63 zo63 y1) <|
  let y2 := t63 (l2.length : Int) (1 : Int) (24 : Int)
  let y3 := !(asB (resC y1 0 0))
  chk ((okR zr63 zo63 y2) || !(!y3)) <|
  let y4 := l2.getD (0 : Int).toNat []
  let y5 := y3 || (!(asB (resC y2 0 0)))
  chk ((decide (0 ≤ (0 : Int)) && decide ((0 : Int) < l2.length) && isRow z64 y4) || !(!y5)) <|
  let y6 := l2.getD (0 : Int).toNat []
  let y7 := y5 || ((asI (nthD y4 0)) != (1 : Int))
  chk ((decide (0 ≤ (0 : Int)) && decide ((0 : Int) < l2.length) && isRow z64 y6) || !(!y7)) <|
  let y8 := y7 || ((asI (nthD y6 1)) != (2 : Int))
  if y8 then
   some ([.one (.b false)], [])
  else
   let y9 := (l2.length : Int)
   la66o1 t63 t99 t100 t101 t102 t103 t104 n1 l2 false y8 l2 y9 n1 l2
    (fun (n52 : Int) (b53 : Bool) (b54 : Bool) (n55 : Int) (n56 : Int) (n57 : Int) (n58 : Int) (n59 : Int) (s60 : ByteArray) (l61 : List (List D)) (n62 : Int) (n63 : Int) =>
     some ([.one (.b false)], []))
    (fun (v64 : SV) (n65 : Int) (b66 : Bool) (v67 : SV) =>
     let y10 := t100 n1 l2 (1 : Int)
     chk (okR zr100 zo100 y10) <|
     chk (decide (0 ≤ (1 : Int) ∧ (1 : Int) ≤ l2.length ∧ (l2.getD 0 z64).length = z64.length)) <|
     let y11 := l2.drop (1 : Int).toNat
     la66o4 t63 t99 t100 t101 t102 t103 t104 n1 l2 false y8 l2 y9 n65 b66 y11 (y11.length : Int) n1 l2 (asL (resC y10 0 0))
      (fun (v139 : SV) (v140 : SV) (n141 : Int) (b142 : Bool) (b143 : Bool) (n144 : Int) (n145 : Int) (n146 : Int) (n147 : Int) (n148 : Int) (s149 : ByteArray) (l150 : List (List D)) (n151 : Int) (n152 : Int) =>
       some ([.one (.b false)], []))
      (fun (v153 : SV) (v154 : SV) (n155 : Int) (b156 : Bool) (v157 : SV) =>
       chk (okR zr103 zo103 (t103 n1 l2)) <|
       let y12 := t104 l2 n1 l2
       let y13 := decide ((asI (resC (t103 n1 l2) 0 0)) ≤ (400 : Int))
       chk ((okR zr104 zo104 y12) || !y13) <|
       some ([.one (.b (y13 && (!(asB (resC y12 0 0)))))], [])) KK v64 v67 (0 : Int) SV.undef SV.undef) KK SV.undef (0 : Int) SV.undef SV.undef
def t66 : Int → List (List D) → Rs := ta66 t63 t99 t100 t101 t102 t103 t104
def zr66 : List DV := [.one (.b false)]
def zo66 : List (List D) := []
def A66 : List TA := [.agg [.i .i64, .l]]
def v66 (vs : List Vr) : Rs := t66 (vI vs 0) (vL vs 1)
def g66 (xs : List DV) : Bool × List DV × List (List D) := gOf zr66 zo66 (argsT A66 v66 xs)
abbrev Y66 := Int → List (List D) → Rs
def la25o0 (t63 : Y63) (t64 : Y64) (t65 : Y65) (t66 : Y66) (n20 : Int) (l21 : List (List D)) (n22 : Int) (l23 : List (List D)) (l24 : List (List D)) (b25 : Bool) (l27 : List (List D)) (n28 : Int) (n32 : Int) (l33 : List (List D)) (n34 : Int) (l35 : List (List D)) (l36 : List (List D)) (q1 : Int → Bool → Bool → Int → Int → Int → Int → ByteArray → Rs) (q2 : SV → Int → Bool → SV → Rs) : Nat → SV → Int → SV → SV → Rs
  | 0, _, _, _, _ => none
  | m + 1, v26, n29, v30, v31 =>
    let y1 := decide (n29 < n28)
    if y1 then
     let y2 := l27.getD n29.toNat []
     chk (decide (0 ≤ n29) && decide (n29 < l27.length) && isRow z81 y2) <|
     let y3 := asI (nthD y2 0)
     let y4 := t63 y3 (1 : Int) (3 : Int)
     chk (okR zr63 zo63 y4) <|
     let y5 := w64 (n29 - (1 : Int))
     let y6 := l36.getD y5.toNat []
     let y7 := !(asB (resC y4 0 0))
     let y8 := decide (n29 > (0 : Int))
     chk ((decide (0 ≤ y5) && decide (y5 < l36.length) && isRow z81 y6) || !((!y7) && y8)) <|
     let y9 := asI (nthD y2 1)
     let y10 := t63 y9 (1 : Int) (1000000 : Int)
     let y11 := y7 || (y8 && (decide ((asI (nthD y6 0)) ≥ y3)))
     chk ((okR zr63 zo63 y10) || !(!y11)) <|
     let y12 := asI (nthD y2 2)
     let y13 := t63 y12 (1 : Int) (100000 : Int)
     let y14 := y11 || (!(asB (resC y10 0 0)))
     chk ((okR zr63 zo63 y13) || !(!y14)) <|
     let y15 := asI (nthD y2 3)
     let y16 := asS (nthD y2 4)
     let y17 := t64 y15 y16
     let y18 := y14 || (!(asB (resC y13 0 0)))
     chk ((okR zr64 zo64 y17) || !(!y18)) <|
     let y19 := y18 || (!(asB (resC y17 0 0)))
     if y19 then
      q1 n29 y1 y19 y3 y9 y12 y15 y16
     else
      la25o0 t63 t64 t65 t66 n20 l21 n22 l23 l24 b25 l27 n28 n32 l33 n34 l35 l36 q1 q2 m (.d (.i .i64 n29)) (w64 (n29 + (1 : Int))) (.d (.b y1)) (.d (.b y19))
    else
     q2 (keepV [64] v26) n29 y1 (keepV [64] v31)
/-- impl.TenantOk -/
def ta25 (t63 : Y63) (t64 : Y64) (t65 : Y65) (t66 : Y66) (n1 : Int) (l2 : List (List D)) (n3 : Int) (l4 : List (List D)) (l5 : List (List D)) : Rs :=
  la25o0 t63 t64 t65 t66 n1 l2 n3 l4 l5 false l5 (l5.length : Int) n1 l2 n3 l4 l5
   (fun (n66 : Int) (b67 : Bool) (b68 : Bool) (n69 : Int) (n70 : Int) (n71 : Int) (n72 : Int) (s73 : ByteArray) =>
    some ([.one (.b false)], []))
   (fun (v74 : SV) (n75 : Int) (b76 : Bool) (v77 : SV) =>
    let y1 := t63 n3 (0 : Int) (30 : Int)
    chk (okR zr63 zo63 y1) <|
    let y2 := asB (resC y1 0 0)
    chk ((okR zr65 zo65 (t65 l4)) || !y2) <|
    let y3 := y2 && (asB (resC (t65 l4) 0 0))
    chk ((okR zr66 zo66 (t66 n1 l2)) || !y3) <|
    some ([.one (.b (y3 && (asB (resC (t66 n1 l2) 0 0))))], [])) KK SV.undef (0 : Int) SV.undef SV.undef
def t25 : Int → List (List D) → Int → List (List D) → List (List D) → Rs := ta25 t63 t64 t65 t66
def zr25 : List DV := [.one (.b false)]
def zo25 : List (List D) := []
def A25 : List TA := [.agg [.i .i64, .l, .i .i64, .l, .l]]
def v25 (vs : List Vr) : Rs := t25 (vI vs 0) (vL vs 1) (vI vs 2) (vL vs 3) (vL vs 4)
def g25 (xs : List DV) : Bool × List DV × List (List D) := gOf zr25 zo25 (argsT A25 v25 xs)
abbrev Y25 := Int → List (List D) → Int → List (List D) → List (List D) → Rs
def l112o0 (n13 : Int) (l14 : List (List D)) (l15 : List (List D)) (n16 : Int) (n19 : Int) (l20 : List (List D)) (n21 : Int) (n22 : Int) (q1 : Int → Bool → List (List D) → Rs) : Nat → Int → SV → List (List D) → Rs
  | 0, _, _, _ => none
  | m + 1, n17, v18, l23 =>
    let y1 := decide (n17 < n16)
    if y1 then
     let y2 := l15.getD n17.toNat []
     chk (decide (0 ≤ n17) && decide (n17 < l15.length) && isRow z64 y2) <|
     let y3 := asL (nthD y2 6)
     chk ((flatR 2 y3) && decide (y3.length ≤ lim)) <|
     let y4 := ([[.i .i64 (asI (nthD y2 0)), .i .i64 (asI (nthD y2 1)), .i .i64 (asI (nthD y2 2)), .i .i64 (asI (nthD y2 3)), .i .i64 (asI (nthD y2 4)), .s (asS (nthD y2 5)), .l y3, .i .i64 (asI (nthD y2 7)), .i .i64 (asI (nthD y2 8))]] : List (List D))
     chk (true && decide (l23.length + y4.length ≤ lim)) <|
     l112o0 n13 l14 l15 n16 n19 l20 n21 n22 q1 m (w64 (n17 + (1 : Int))) (.d (.b y1)) (l23 ++ y4)
    else
     q1 n17 y1 l23
/-- impl.copyVol -/
def t112 (n1 : Int) (l2 : List (List D)) : Rs :=
  l112o0 n1 l2 l2 (l2.length : Int) n1 l2 (0 : Int) n1
   (fun (n38 : Int) (b39 : Bool) (l40 : List (List D)) =>
    some ([.agg [.i .i64 n1, .l l40]], [])) KK (0 : Int) SV.undef ([] : List (List D))
def zr112 : List DV := [.agg [.i .i64 0, .l []]]
def zo112 : List (List D) := []
def A112 : List TA := [.agg [.i .i64, .l]]
def v112 (vs : List Vr) : Rs := t112 (vI vs 0) (vL vs 1)
def g112 (xs : List DV) : Bool × List DV × List (List D) := gOf zr112 zo112 (argsT A112 v112 xs)
abbrev Y112 := Int → List (List D) → Rs
/-- impl.copyTenant -/
def ta75 (t112 : Y112) (n1 : Int) (l2 : List (List D)) (n3 : Int) (l4 : List (List D)) (l5 : List (List D)) : Rs :=
  chk (okR zr112 zo112 (t112 n1 l2)) <|
  chk ((flatR 5 l4) && decide (l4.length ≤ lim)) <|
  chk ((flatR 5 l5) && decide (l5.length ≤ lim)) <|
  some ([.agg [.i .i64 (asI (resC (t112 n1 l2) 0 0)), .l (asL (resC (t112 n1 l2) 0 1)), .i .i64 n3, .l l4, .l l5]], [])
def t75 : Int → List (List D) → Int → List (List D) → List (List D) → Rs := ta75 t112
def zr75 : List DV := [.agg [.i .i64 0, .l [], .i .i64 0, .l [], .l []]]
def zo75 : List (List D) := []
def A75 : List TA := [.agg [.i .i64, .l, .i .i64, .l, .l]]
def v75 (vs : List Vr) : Rs := t75 (vI vs 0) (vL vs 1) (vI vs 2) (vL vs 3) (vL vs 4)
def g75 (xs : List DV) : Bool × List DV × List (List D) := gOf zr75 zo75 (argsT A75 v75 xs)
abbrev Y75 := Int → List (List D) → Int → List (List D) → List (List D) → Rs
/-- impl.Refill -/
def t76 (n1 : Int) : Rs :=
  if decide (n1 < (0 : Int)) then
   some ([.one (.i .i64 (4 : Int))], [])
  else
   if decide (n1 > (26 : Int)) then
    some ([.one (.i .i64 (30 : Int))], [])
   else
    some ([.one (.i .i64 (w64 (n1 + (4 : Int))))], [])
def zr76 : List DV := [.one (.i .i64 0)]
def zo76 : List (List D) := []
def A76 : List TA := [.one (.i .i64)]
def v76 (vs : List Vr) : Rs := t76 (vI vs 0)
def g76 (xs : List DV) : Bool × List DV × List (List D) := gOf zr76 zo76 (argsT A76 v76 xs)
abbrev Y76 := Int → Rs
/-- impl.TenantTick -/
def ta35 (t25 : Y25) (t75 : Y75) (t76 : Y76) (n1 : Int) (l2 : List (List D)) (n3 : Int) (l4 : List (List D)) (l5 : List (List D)) : Rs :=
  let y1 := t25 n1 l2 n3 l4 l5
  chk (okR zr25 zo25 y1) <|
  if !(asB (resC y1 0 0)) then
   some ([.agg [.i .i64 (0 : Int), .l ([] : List (List D)), .i .i64 (0 : Int), .l ([] : List (List D)), .l ([] : List (List D))]], [])
  else
   let y2 := t75 n1 l2 n3 l4 l5
   chk (okR zr75 zo75 y2) <|
   chk (okR zr76 zo76 (t76 n3)) <|
   some ([.agg [.i .i64 (asI (resC y2 0 0)), .l (asL (resC y2 0 1)), .i .i64 (asI (resC (t76 n3) 0 0)), .l (asL (resC y2 0 3)), .l (asL (resC y2 0 4))]], [])
def t35 : Int → List (List D) → Int → List (List D) → List (List D) → Rs := ta35 t25 t75 t76
def zr35 : List DV := [.agg [.i .i64 0, .l [], .i .i64 0, .l [], .l []]]
def zo35 : List (List D) := []
def A35 : List TA := [.agg [.i .i64, .l, .i .i64, .l, .l]]
def v35 (vs : List Vr) : Rs := t35 (vI vs 0) (vL vs 1) (vI vs 2) (vL vs 3) (vL vs 4)
def g35 (xs : List DV) : Bool × List DV × List (List D) := gOf zr35 zo35 (argsT A35 v35 xs)
abbrev Y35 := Int → List (List D) → Int → List (List D) → List (List D) → Rs
/-- laws.eqDirent -/
def t143 (s1 : ByteArray) (n2 : Int) (s3 : ByteArray) (n4 : Int) : Rs :=
  if !(s1.toList == s3.toList) then
   some ([.one (.b false)], [])
  else
   if n2 != n4 then
    some ([.one (.b false)], [])
   else
    some ([.one (.b true)], [])
def zr143 : List DV := [.one (.b false)]
def zo143 : List (List D) := []
def A143 : List TA := [.agg [.s, .i .i64], .agg [.s, .i .i64]]
def v143 (vs : List Vr) : Rs := t143 (vS vs 0) (vI vs 1) (vS vs 2) (vI vs 3)
def g143 (xs : List DV) : Bool × List DV × List (List D) := gOf zr143 zo143 (argsT A143 v143 xs)
abbrev Y143 := ByteArray → Int → ByteArray → Int → Rs
def la137o1 (t143 : Y143) (l8 : List (List D)) (l9 : List (List D)) (b10 : Bool) (b12 : Bool) (q1 : Int → Bool → Bool → Rs) (q2 : Int → Bool → SV → Rs) : Nat → Int → SV → SV → Rs
  | 0, _, _, _ => none
  | m + 1, n11, v13, v14 =>
    let y1 := decide (n11 < (l8.length : Int))
    if y1 then
     let y2 := l8.getD n11.toNat []
     chk (decide (0 ≤ n11) && decide (n11 < l8.length) && isRow z129 y2) <|
     let y3 := l9.getD n11.toNat []
     chk (decide (0 ≤ n11) && decide (n11 < l9.length) && isRow z129 y3) <|
     let y4 := t143 (asS (nthD y2 0)) (asI (nthD y2 1)) (asS (nthD y3 0)) (asI (nthD y3 1))
     chk (okR zr143 zo143 y4) <|
     let y5 := !(asB (resC y4 0 0))
     if y5 then
      q1 n11 y1 y5
     else
      la137o1 t143 l8 l9 b10 b12 q1 q2 m (w64 (n11 + (1 : Int))) (.d (.b y1)) (.d (.b y5))
    else
     q2 n11 y1 (keepV [] v14)
/-- laws.eqDirentS -/
def ta137 (t143 : Y143) (l1 : List (List D)) (l2 : List (List D)) : Rs :=
  let y1 := (l1.length : Int) != (l2.length : Int)
  if y1 then
   some ([.one (.b false)], [])
  else
   la137o1 t143 l1 l2 false y1
    (fun (n28 : Int) (b29 : Bool) (b30 : Bool) =>
     some ([.one (.b false)], []))
    (fun (n31 : Int) (b32 : Bool) (v33 : SV) =>
     some ([.one (.b true)], [])) KK (0 : Int) SV.undef SV.undef
def t137 : List (List D) → List (List D) → Rs := ta137 t143
def zr137 : List DV := [.one (.b false)]
def zo137 : List (List D) := []
def A137 : List TA := [.one (.l), .one (.l)]
def v137 (vs : List Vr) : Rs := t137 (vL vs 0) (vL vs 1)
def g137 (xs : List DV) : Bool × List DV × List (List D) := gOf zr137 zo137 (argsT A137 v137 xs)
abbrev Y137 := List (List D) → List (List D) → Rs
/-- laws.eqInode -/
def ta120 (t137 : Y137) (n1 : Int) (n2 : Int) (n3 : Int) (n4 : Int) (n5 : Int) (s6 : ByteArray) (l7 : List (List D)) (n8 : Int) (n9 : Int) (n10 : Int) (n11 : Int) (n12 : Int) (n13 : Int) (n14 : Int) (s15 : ByteArray) (l16 : List (List D)) (n17 : Int) (n18 : Int) : Rs :=
  if n1 != n10 then
   some ([.one (.b false)], [])
  else
   if n2 != n11 then
    some ([.one (.b false)], [])
   else
    if n3 != n12 then
     some ([.one (.b false)], [])
    else
     if n4 != n13 then
      some ([.one (.b false)], [])
     else
      if n5 != n14 then
       some ([.one (.b false)], [])
      else
       if !(s6.toList == s15.toList) then
        some ([.one (.b false)], [])
       else
        chk (okR zr137 zo137 (t137 l7 l16)) <|
        if !(asB (resC (t137 l7 l16) 0 0)) then
         some ([.one (.b false)], [])
        else
         if n8 != n17 then
          some ([.one (.b false)], [])
         else
          if n9 != n18 then
           some ([.one (.b false)], [])
          else
           some ([.one (.b true)], [])
def t120 : Int → Int → Int → Int → Int → ByteArray → List (List D) → Int → Int → Int → Int → Int → Int → Int → ByteArray → List (List D) → Int → Int → Rs := ta120 t137
def zr120 : List DV := [.one (.b false)]
def zo120 : List (List D) := []
def A120 : List TA := [.agg [.i .i64, .i .i64, .i .i64, .i .i64, .i .i64, .s, .l, .i .i64, .i .i64], .agg [.i .i64, .i .i64, .i .i64, .i .i64, .i .i64, .s, .l, .i .i64, .i .i64]]
def v120 (vs : List Vr) : Rs := t120 (vI vs 0) (vI vs 1) (vI vs 2) (vI vs 3) (vI vs 4) (vS vs 5) (vL vs 6) (vI vs 7) (vI vs 8) (vI vs 9) (vI vs 10) (vI vs 11) (vI vs 12) (vI vs 13) (vS vs 14) (vL vs 15) (vI vs 16) (vI vs 17)
def g120 (xs : List DV) : Bool × List DV × List (List D) := gOf zr120 zo120 (argsT A120 v120 xs)
abbrev Y120 := Int → Int → Int → Int → Int → ByteArray → List (List D) → Int → Int → Int → Int → Int → Int → Int → ByteArray → List (List D) → Int → Int → Rs
def la83o1 (t120 : Y120) (l8 : List (List D)) (l9 : List (List D)) (b10 : Bool) (b12 : Bool) (q1 : Int → Bool → Bool → Rs) (q2 : Int → Bool → SV → Rs) : Nat → Int → SV → SV → Rs
  | 0, _, _, _ => none
  | m + 1, n11, v13, v14 =>
    let y1 := decide (n11 < (l8.length : Int))
    if y1 then
     let y2 := l8.getD n11.toNat []
     chk (decide (0 ≤ n11) && decide (n11 < l8.length) && isRow z64 y2) <|
     let y3 := l9.getD n11.toNat []
     chk (decide (0 ≤ n11) && decide (n11 < l9.length) && isRow z64 y3) <|
     let y4 := t120 (asI (nthD y2 0)) (asI (nthD y2 1)) (asI (nthD y2 2)) (asI (nthD y2 3)) (asI (nthD y2 4)) (asS (nthD y2 5)) (asL (nthD y2 6)) (asI (nthD y2 7)) (asI (nthD y2 8)) (asI (nthD y3 0)) (asI (nthD y3 1)) (asI (nthD y3 2)) (asI (nthD y3 3)) (asI (nthD y3 4)) (asS (nthD y3 5)) (asL (nthD y3 6)) (asI (nthD y3 7)) (asI (nthD y3 8))
     chk (okR zr120 zo120 y4) <|
     let y5 := !(asB (resC y4 0 0))
     if y5 then
      q1 n11 y1 y5
     else
      la83o1 t120 l8 l9 b10 b12 q1 q2 m (w64 (n11 + (1 : Int))) (.d (.b y1)) (.d (.b y5))
    else
     q2 n11 y1 (keepV [] v14)
/-- laws.eqInodeS -/
def ta83 (t120 : Y120) (l1 : List (List D)) (l2 : List (List D)) : Rs :=
  let y1 := (l1.length : Int) != (l2.length : Int)
  if y1 then
   some ([.one (.b false)], [])
  else
   la83o1 t120 l1 l2 false y1
    (fun (n28 : Int) (b29 : Bool) (b30 : Bool) =>
     some ([.one (.b false)], []))
    (fun (n31 : Int) (b32 : Bool) (v33 : SV) =>
     some ([.one (.b true)], [])) KK (0 : Int) SV.undef SV.undef
def t83 : List (List D) → List (List D) → Rs := ta83 t120
def zr83 : List DV := [.one (.b false)]
def zo83 : List (List D) := []
def A83 : List TA := [.one (.l), .one (.l)]
def v83 (vs : List Vr) : Rs := t83 (vL vs 0) (vL vs 1)
def g83 (xs : List DV) : Bool × List DV × List (List D) := gOf zr83 zo83 (argsT A83 v83 xs)
abbrev Y83 := List (List D) → List (List D) → Rs
/-- laws.eqVol -/
def ta42 (t83 : Y83) (n1 : Int) (l2 : List (List D)) (n3 : Int) (l4 : List (List D)) : Rs :=
  if n1 != n3 then
   some ([.one (.b false)], [])
  else
   chk (okR zr83 zo83 (t83 l2 l4)) <|
   if !(asB (resC (t83 l2 l4) 0 0)) then
    some ([.one (.b false)], [])
   else
    some ([.one (.b true)], [])
def t42 : Int → List (List D) → Int → List (List D) → Rs := ta42 t83
def zr42 : List DV := [.one (.b false)]
def zo42 : List (List D) := []
def A42 : List TA := [.agg [.i .i64, .l], .agg [.i .i64, .l]]
def v42 (vs : List Vr) : Rs := t42 (vI vs 0) (vL vs 1) (vI vs 2) (vL vs 3)
def g42 (xs : List DV) : Bool × List DV × List (List D) := gOf zr42 zo42 (argsT A42 v42 xs)
abbrev Y42 := Int → List (List D) → Int → List (List D) → Rs
/-- laws.eqNote -/
def t84 (n1 : Int) (n2 : Int) (n3 : Int) (n4 : Int) (n5 : Int) (n6 : Int) (n7 : Int) (n8 : Int) (n9 : Int) (n10 : Int) : Rs :=
  if n1 != n6 then
   some ([.one (.b false)], [])
  else
   if n2 != n7 then
    some ([.one (.b false)], [])
   else
    if n3 != n8 then
     some ([.one (.b false)], [])
    else
     if n4 != n9 then
      some ([.one (.b false)], [])
     else
      if n5 != n10 then
       some ([.one (.b false)], [])
      else
       some ([.one (.b true)], [])
def zr84 : List DV := [.one (.b false)]
def zo84 : List (List D) := []
def A84 : List TA := [.agg [.i .i64, .i .i64, .i .i64, .i .i64, .i .i64], .agg [.i .i64, .i .i64, .i .i64, .i .i64, .i .i64]]
def v84 (vs : List Vr) : Rs := t84 (vI vs 0) (vI vs 1) (vI vs 2) (vI vs 3) (vI vs 4) (vI vs 5) (vI vs 6) (vI vs 7) (vI vs 8) (vI vs 9)
def g84 (xs : List DV) : Bool × List DV × List (List D) := gOf zr84 zo84 (argsT A84 v84 xs)
abbrev Y84 := Int → Int → Int → Int → Int → Int → Int → Int → Int → Int → Rs
def la43o1 (t84 : Y84) (l8 : List (List D)) (l9 : List (List D)) (b10 : Bool) (b12 : Bool) (q1 : Int → Bool → Bool → Rs) (q2 : Int → Bool → SV → Rs) : Nat → Int → SV → SV → Rs
  | 0, _, _, _ => none
  | m + 1, n11, v13, v14 =>
    let y1 := decide (n11 < (l8.length : Int))
    if y1 then
     let y2 := l8.getD n11.toNat []
     chk (decide (0 ≤ n11) && decide (n11 < l8.length) && isRow z90 y2) <|
     let y3 := l9.getD n11.toNat []
     chk (decide (0 ≤ n11) && decide (n11 < l9.length) && isRow z90 y3) <|
     let y4 := t84 (asI (nthD y2 0)) (asI (nthD y2 1)) (asI (nthD y2 2)) (asI (nthD y2 3)) (asI (nthD y2 4)) (asI (nthD y3 0)) (asI (nthD y3 1)) (asI (nthD y3 2)) (asI (nthD y3 3)) (asI (nthD y3 4))
     chk (okR zr84 zo84 y4) <|
     let y5 := !(asB (resC y4 0 0))
     if y5 then
      q1 n11 y1 y5
     else
      la43o1 t84 l8 l9 b10 b12 q1 q2 m (w64 (n11 + (1 : Int))) (.d (.b y1)) (.d (.b y5))
    else
     q2 n11 y1 (keepV [] v14)
/-- laws.eqNoteS -/
def ta43 (t84 : Y84) (l1 : List (List D)) (l2 : List (List D)) : Rs :=
  let y1 := (l1.length : Int) != (l2.length : Int)
  if y1 then
   some ([.one (.b false)], [])
  else
   la43o1 t84 l1 l2 false y1
    (fun (n28 : Int) (b29 : Bool) (b30 : Bool) =>
     some ([.one (.b false)], []))
    (fun (n31 : Int) (b32 : Bool) (v33 : SV) =>
     some ([.one (.b true)], [])) KK (0 : Int) SV.undef SV.undef
def t43 : List (List D) → List (List D) → Rs := ta43 t84
def zr43 : List DV := [.one (.b false)]
def zo43 : List (List D) := []
def A43 : List TA := [.one (.l), .one (.l)]
def v43 (vs : List Vr) : Rs := t43 (vL vs 0) (vL vs 1)
def g43 (xs : List DV) : Bool × List DV × List (List D) := gOf zr43 zo43 (argsT A43 v43 xs)
abbrev Y43 := List (List D) → List (List D) → Rs
/-- laws.eqResult -/
def t121 (n1 : Int) (s2 : ByteArray) (n3 : Int) (s4 : ByteArray) : Rs :=
  if n1 != n3 then
   some ([.one (.b false)], [])
  else
   if !(s2.toList == s4.toList) then
    some ([.one (.b false)], [])
   else
    some ([.one (.b true)], [])
def zr121 : List DV := [.one (.b false)]
def zo121 : List (List D) := []
def A121 : List TA := [.agg [.i .i64, .s], .agg [.i .i64, .s]]
def v121 (vs : List Vr) : Rs := t121 (vI vs 0) (vS vs 1) (vI vs 2) (vS vs 3)
def g121 (xs : List DV) : Bool × List DV × List (List D) := gOf zr121 zo121 (argsT A121 v121 xs)
abbrev Y121 := Int → ByteArray → Int → ByteArray → Rs
/-- laws.eqSession -/
def ta85 (t121 : Y121) (n1 : Int) (n2 : Int) (n3 : Int) (n4 : Int) (s5 : ByteArray) (n6 : Int) (n7 : Int) (n8 : Int) (n9 : Int) (s10 : ByteArray) : Rs :=
  if n1 != n6 then
   some ([.one (.b false)], [])
  else
   if n2 != n7 then
    some ([.one (.b false)], [])
   else
    if n3 != n8 then
     some ([.one (.b false)], [])
    else
     let y1 := t121 n4 s5 n9 s10
     chk (okR zr121 zo121 y1) <|
     if !(asB (resC y1 0 0)) then
      some ([.one (.b false)], [])
     else
      some ([.one (.b true)], [])
def t85 : Int → Int → Int → Int → ByteArray → Int → Int → Int → Int → ByteArray → Rs := ta85 t121
def zr85 : List DV := [.one (.b false)]
def zo85 : List (List D) := []
def A85 : List TA := [.agg [.i .i64, .i .i64, .i .i64, .i .i64, .s], .agg [.i .i64, .i .i64, .i .i64, .i .i64, .s]]
def v85 (vs : List Vr) : Rs := t85 (vI vs 0) (vI vs 1) (vI vs 2) (vI vs 3) (vS vs 4) (vI vs 5) (vI vs 6) (vI vs 7) (vI vs 8) (vS vs 9)
def g85 (xs : List DV) : Bool × List DV × List (List D) := gOf zr85 zo85 (argsT A85 v85 xs)
abbrev Y85 := Int → Int → Int → Int → ByteArray → Int → Int → Int → Int → ByteArray → Rs
def la44o1 (t85 : Y85) (l8 : List (List D)) (l9 : List (List D)) (b10 : Bool) (b12 : Bool) (q1 : Int → Bool → Bool → Rs) (q2 : Int → Bool → SV → Rs) : Nat → Int → SV → SV → Rs
  | 0, _, _, _ => none
  | m + 1, n11, v13, v14 =>
    let y1 := decide (n11 < (l8.length : Int))
    if y1 then
     let y2 := l8.getD n11.toNat []
     chk (decide (0 ≤ n11) && decide (n11 < l8.length) && isRow z81 y2) <|
     let y3 := l9.getD n11.toNat []
     chk (decide (0 ≤ n11) && decide (n11 < l9.length) && isRow z81 y3) <|
     let y4 := t85 (asI (nthD y2 0)) (asI (nthD y2 1)) (asI (nthD y2 2)) (asI (nthD y2 3)) (asS (nthD y2 4)) (asI (nthD y3 0)) (asI (nthD y3 1)) (asI (nthD y3 2)) (asI (nthD y3 3)) (asS (nthD y3 4))
     chk (okR zr85 zo85 y4) <|
     let y5 := !(asB (resC y4 0 0))
     if y5 then
      q1 n11 y1 y5
     else
      la44o1 t85 l8 l9 b10 b12 q1 q2 m (w64 (n11 + (1 : Int))) (.d (.b y1)) (.d (.b y5))
    else
     q2 n11 y1 (keepV [] v14)
/-- laws.eqSessionS -/
def ta44 (t85 : Y85) (l1 : List (List D)) (l2 : List (List D)) : Rs :=
  let y1 := (l1.length : Int) != (l2.length : Int)
  if y1 then
   some ([.one (.b false)], [])
  else
   la44o1 t85 l1 l2 false y1
    (fun (n28 : Int) (b29 : Bool) (b30 : Bool) =>
     some ([.one (.b false)], []))
    (fun (n31 : Int) (b32 : Bool) (v33 : SV) =>
     some ([.one (.b true)], [])) KK (0 : Int) SV.undef SV.undef
def t44 : List (List D) → List (List D) → Rs := ta44 t85
def zr44 : List DV := [.one (.b false)]
def zo44 : List (List D) := []
def A44 : List TA := [.one (.l), .one (.l)]
def v44 (vs : List Vr) : Rs := t44 (vL vs 0) (vL vs 1)
def g44 (xs : List DV) : Bool × List DV × List (List D) := gOf zr44 zo44 (argsT A44 v44 xs)
abbrev Y44 := List (List D) → List (List D) → Rs
/-- laws.eqTenant -/
def ta14 (t42 : Y42) (t43 : Y43) (t44 : Y44) (n1 : Int) (l2 : List (List D)) (n3 : Int) (l4 : List (List D)) (l5 : List (List D)) (n6 : Int) (l7 : List (List D)) (n8 : Int) (l9 : List (List D)) (l10 : List (List D)) : Rs :=
  let y1 := t42 n1 l2 n6 l7
  chk (okR zr42 zo42 y1) <|
  if !(asB (resC y1 0 0)) then
   some ([.one (.b false)], [])
  else
   if n3 != n8 then
    some ([.one (.b false)], [])
   else
    chk (okR zr43 zo43 (t43 l4 l9)) <|
    if !(asB (resC (t43 l4 l9) 0 0)) then
     some ([.one (.b false)], [])
    else
     chk (okR zr44 zo44 (t44 l5 l10)) <|
     if !(asB (resC (t44 l5 l10) 0 0)) then
      some ([.one (.b false)], [])
     else
      some ([.one (.b true)], [])
def t14 : Int → List (List D) → Int → List (List D) → List (List D) → Int → List (List D) → Int → List (List D) → List (List D) → Rs := ta14 t42 t43 t44
def zr14 : List DV := [.one (.b false)]
def zo14 : List (List D) := []
def A14 : List TA := [.agg [.i .i64, .l, .i .i64, .l, .l], .agg [.i .i64, .l, .i .i64, .l, .l]]
def v14 (vs : List Vr) : Rs := t14 (vI vs 0) (vL vs 1) (vI vs 2) (vL vs 3) (vL vs 4) (vI vs 5) (vL vs 6) (vI vs 7) (vL vs 8) (vL vs 9)
def g14 (xs : List DV) : Bool × List DV × List (List D) := gOf zr14 zo14 (argsT A14 v14 xs)
abbrev Y14 := Int → List (List D) → Int → List (List D) → List (List D) → Int → List (List D) → Int → List (List D) → List (List D) → Rs
def l86o1 (s7 : ByteArray) (b9 : Bool) (q1 : Int → ByteArray → Bool → Rs) : Nat → Int → ByteArray → SV → Rs
  | 0, _, _, _ => none
  | m + 1, n6, s8, v10 =>
    let y1 := decide (n6 > (0 : Int))
    if y1 then
     let y2 := ([[.i .u8 (IntKind.wrap .u8 (w64 ((48 : Int) + (n6.tmod (10 : Int)))))]] : List (List D))
     chk (isBytes y2) <|
     let y3 := ⟨(bytesD y2).toArray⟩
     chk (decide (y3.size + s8.size ≤ lim)) <|
     l86o1 s7 b9 q1 m (w64 (n6.tdiv (10 : Int))) (y3 ++ s8) (.d (.b y1))
    else
     q1 n6 s8 y1
/-- laws.markText -/
def t86 (n1 : Int) : Rs :=
  let y1 := decide (n1 ≤ (0 : Int))
  if y1 then
   some ([.one (.s (⟨#[109, 48]⟩ : ByteArray))], [])
  else
   l86o1 (⟨#[]⟩ : ByteArray) y1
    (fun (n19 : Int) (s20 : ByteArray) (b21 : Bool) =>
     chk (decide ((⟨#[109]⟩ : ByteArray).size + s20.size ≤ lim)) <|
     some ([.one (.s ((⟨#[109]⟩ : ByteArray) ++ s20))], [])) KK n1 (⟨#[]⟩ : ByteArray) SV.undef
def zr86 : List DV := [.one (.s ⟨#[]⟩)]
def zo86 : List (List D) := []
def A86 : List TA := [.one (.i .i64)]
def v86 (vs : List Vr) : Rs := t86 (vI vs 0)
def g86 (xs : List DV) : Bool × List DV × List (List D) := gOf zr86 zo86 (argsT A86 v86 xs)
abbrev Y86 := Int → Rs
def la87o0 (t86 : Y86) (n8 : Int) (q1 : Int → Int → Bool → List (List D) → Rs) : Nat → Int → Int → SV → List (List D) → Rs
  | 0, _, _, _, _ => none
  | m + 1, n7, n9, v10, l11 =>
    let y1 := decide (n9 < (l11.length : Int))
    if y1 then
     chk (okR zr86 zo86 (t86 n7)) <|
     chk (decide (0 ≤ n9) && decide (n9 < l11.length)) <|
     chk (decide (1 ≤ 2 ∧ (n9.toNat) < l11.length)) <|
     let y2 := stR l11 (n9.toNat) 0 [.s (asS (resC (t86 n7) 0 0))]
     chk (decide (0 ≤ n9) && decide (n9 < y2.length)) <|
     chk (decide (2 ≤ 2 ∧ (n9.toNat) < y2.length)) <|
     let y3 := w64 (n7 + (1 : Int))
     la87o0 t86 n8 q1 m (w64 (y3 + (1 : Int))) (w64 (n9 + (1 : Int))) (.d (.b y1)) (stR y2 (n9.toNat) 1 [.i .i64 y3])
    else
     q1 n7 n9 y1 l11
/-- laws.markDirentS -/
def ta87 (t86 : Y86) (l1 : List (List D)) (n2 : Int) : Rs :=
  la87o0 t86 (0 : Int)
   (fun (n21 : Int) (n22 : Int) (b23 : Bool) (l24 : List (List D)) =>
    some ([.one (.i .i64 n21)], [[.l l24]])) KK n2 (0 : Int) SV.undef l1
def t87 : List (List D) → Int → Rs := ta87 t86
def zr87 : List DV := [.one (.i .i64 0)]
def zo87 : List (List D) := [[.l []]]
def A87 : List TA := [.one (.l), .one (.i .i64)]
def v87 (vs : List Vr) : Rs := t87 (vL vs 0) (vI vs 1)
def g87 (xs : List DV) : Bool × List DV × List (List D) := gOf zr87 zo87 (argsT A87 v87 xs)
abbrev Y87 := List (List D) → Int → Rs
def la51o0 (t86 : Y86) (t87 : Y87) (n8 : Int) (q1 : Int → Int → Bool → List (List D) → Rs) : Nat → Int → Int → SV → List (List D) → Rs
  | 0, _, _, _, _ => none
  | m + 1, n7, n9, v10, l11 =>
    let y1 := decide (n9 < (l11.length : Int))
    if y1 then
     chk (decide (0 ≤ n9) && decide (n9 < l11.length)) <|
     chk (decide (1 ≤ 9 ∧ (n9.toNat) < l11.length)) <|
     let y2 := stR l11 (n9.toNat) 0 [.i .i64 n7]
     chk (decide (0 ≤ n9) && decide (n9 < y2.length)) <|
     chk (decide (2 ≤ 9 ∧ (n9.toNat) < y2.length)) <|
     let y3 := w64 (n7 + (1 : Int))
     let y4 := stR y2 (n9.toNat) 1 [.i .i64 y3]
     chk (decide (0 ≤ n9) && decide (n9 < y4.length)) <|
     chk (decide (3 ≤ 9 ∧ (n9.toNat) < y4.length)) <|
     let y5 := w64 (y3 + (1 : Int))
     let y6 := stR y4 (n9.toNat) 2 [.i .i64 y5]
     chk (decide (0 ≤ n9) && decide (n9 < y6.length)) <|
     chk (decide (4 ≤ 9 ∧ (n9.toNat) < y6.length)) <|
     let y7 := w64 (y5 + (1 : Int))
     let y8 := stR y6 (n9.toNat) 3 [.i .i64 y7]
     chk (decide (0 ≤ n9) && decide (n9 < y8.length)) <|
     chk (decide (5 ≤ 9 ∧ (n9.toNat) < y8.length)) <|
     let y9 := w64 (y7 + (1 : Int))
     let y10 := w64 (y9 + (1 : Int))
     let y11 := t86 y10
     chk (okR zr86 zo86 y11) <|
     let y12 := stR y8 (n9.toNat) 4 [.i .i64 y9]
     chk (decide (0 ≤ n9) && decide (n9 < y12.length)) <|
     chk (decide (6 ≤ 9 ∧ (n9.toNat) < y12.length)) <|
     let y13 := stR y12 (n9.toNat) 5 [.s (asS (resC y11 0 0))]
     chk (decide (0 ≤ n9) && decide (n9 < y13.length)) <|
     let y14 := y13.getD (n9.toNat) []
     let y15 := asL (nthD y14 6)
     let y16 := t87 y15 (w64 (y10 + (1 : Int)))
     chk (okR zr87 zo87 y16 && (decide (6 + 1 ≤ y14.length) && isF [.l []] 6 y14 && fstSz 2 y15)) <|
     let y17 := stR y13 (n9.toNat) 6 [.l (asL (outC y16 0 0))]
     chk (decide (0 ≤ n9) && decide (n9 < y17.length)) <|
     chk (decide (8 ≤ 9 ∧ (n9.toNat) < y17.length)) <|
     let y18 := asI (resC y16 0 0)
     let y19 := stR y17 (n9.toNat) 7 [.i .i64 y18]
     chk (decide (0 ≤ n9) && decide (n9 < y19.length)) <|
     chk (decide (9 ≤ 9 ∧ (n9.toNat) < y19.length)) <|
     let y20 := w64 (y18 + (1 : Int))
     la51o0 t86 t87 n8 q1 m (w64 (y20 + (1 : Int))) (w64 (n9 + (1 : Int))) (.d (.b y1)) (stR y19 (n9.toNat) 8 [.i .i64 y20])
    else
     q1 n7 n9 y1 l11
/-- laws.markInodeS -/
def ta51 (t86 : Y86) (t87 : Y87) (l1 : List (List D)) (n2 : Int) : Rs :=
  la51o0 t86 t87 (0 : Int)
   (fun (n21 : Int) (n22 : Int) (b23 : Bool) (l24 : List (List D)) =>
    some ([.one (.i .i64 n21)], [[.l l24]])) KK n2 (0 : Int) SV.undef l1
def t51 : List (List D) → Int → Rs := ta51 t86 t87
def zr51 : List DV := [.one (.i .i64 0)]
def zo51 : List (List D) := [[.l []]]
def A51 : List TA := [.one (.l), .one (.i .i64)]
def v51 (vs : List Vr) : Rs := t51 (vL vs 0) (vI vs 1)
def g51 (xs : List DV) : Bool × List DV × List (List D) := gOf zr51 zo51 (argsT A51 v51 xs)
abbrev Y51 := List (List D) → Int → Rs
/-- laws.markVol -/
def ta45 (t51 : Y51) (n1 : Int) (l2 : List (List D)) (n3 : Int) : Rs :=
  chk (okR zr51 zo51 (t51 l2 n3)) <|
  some ([.one (.i .i64 (asI (resC (t51 l2 n3) 0 0)))], [[.i .i64 n1, .l (asL (outC (t51 l2 n3) 0 0))]])
def t45 : Int → List (List D) → Int → Rs := ta45 t51
def zr45 : List DV := [.one (.i .i64 0)]
def zo45 : List (List D) := [[.i .i64 0, .l []]]
def A45 : List TA := [.agg [.i .i64, .l], .one (.i .i64)]
def v45 (vs : List Vr) : Rs := t45 (vI vs 0) (vL vs 1) (vI vs 2)
def g45 (xs : List DV) : Bool × List DV × List (List D) := gOf zr45 zo45 (argsT A45 v45 xs)
abbrev Y45 := Int → List (List D) → Int → Rs
def l46o0 (n8 : Int) (q1 : Int → Int → Bool → List (List D) → Rs) : Nat → Int → Int → SV → List (List D) → Rs
  | 0, _, _, _, _ => none
  | m + 1, n7, n9, v10, l11 =>
    let y1 := decide (n9 < (l11.length : Int))
    if y1 then
     chk (decide (0 ≤ n9) && decide (n9 < l11.length)) <|
     chk (decide (1 ≤ 5 ∧ (n9.toNat) < l11.length)) <|
     let y2 := stR l11 (n9.toNat) 0 [.i .i64 n7]
     chk (decide (0 ≤ n9) && decide (n9 < y2.length)) <|
     chk (decide (2 ≤ 5 ∧ (n9.toNat) < y2.length)) <|
     let y3 := w64 (n7 + (1 : Int))
     let y4 := stR y2 (n9.toNat) 1 [.i .i64 y3]
     chk (decide (0 ≤ n9) && decide (n9 < y4.length)) <|
     chk (decide (3 ≤ 5 ∧ (n9.toNat) < y4.length)) <|
     let y5 := w64 (y3 + (1 : Int))
     let y6 := stR y4 (n9.toNat) 2 [.i .i64 y5]
     chk (decide (0 ≤ n9) && decide (n9 < y6.length)) <|
     chk (decide (4 ≤ 5 ∧ (n9.toNat) < y6.length)) <|
     let y7 := w64 (y5 + (1 : Int))
     let y8 := stR y6 (n9.toNat) 3 [.i .i64 y7]
     chk (decide (0 ≤ n9) && decide (n9 < y8.length)) <|
     chk (decide (5 ≤ 5 ∧ (n9.toNat) < y8.length)) <|
     let y9 := w64 (y7 + (1 : Int))
     l46o0 n8 q1 m (w64 (y9 + (1 : Int))) (w64 (n9 + (1 : Int))) (.d (.b y1)) (stR y8 (n9.toNat) 4 [.i .i64 y9])
    else
     q1 n7 n9 y1 l11
/-- laws.markNoteS -/
def t46 (l1 : List (List D)) (n2 : Int) : Rs :=
  l46o0 (0 : Int)
   (fun (n21 : Int) (n22 : Int) (b23 : Bool) (l24 : List (List D)) =>
    some ([.one (.i .i64 n21)], [[.l l24]])) KK n2 (0 : Int) SV.undef l1
def zr46 : List DV := [.one (.i .i64 0)]
def zo46 : List (List D) := [[.l []]]
def A46 : List TA := [.one (.l), .one (.i .i64)]
def v46 (vs : List Vr) : Rs := t46 (vL vs 0) (vI vs 1)
def g46 (xs : List DV) : Bool × List DV × List (List D) := gOf zr46 zo46 (argsT A46 v46 xs)
abbrev Y46 := List (List D) → Int → Rs
def la47o0 (t86 : Y86) (n8 : Int) (q1 : Int → Int → Bool → List (List D) → Rs) : Nat → Int → Int → SV → List (List D) → Rs
  | 0, _, _, _, _ => none
  | m + 1, n7, n9, v10, l11 =>
    let y1 := decide (n9 < (l11.length : Int))
    if y1 then
     chk (decide (0 ≤ n9) && decide (n9 < l11.length)) <|
     chk (decide (1 ≤ 5 ∧ (n9.toNat) < l11.length)) <|
     let y2 := stR l11 (n9.toNat) 0 [.i .i64 n7]
     chk (decide (0 ≤ n9) && decide (n9 < y2.length)) <|
     chk (decide (2 ≤ 5 ∧ (n9.toNat) < y2.length)) <|
     let y3 := w64 (n7 + (1 : Int))
     let y4 := stR y2 (n9.toNat) 1 [.i .i64 y3]
     chk (decide (0 ≤ n9) && decide (n9 < y4.length)) <|
     chk (decide (3 ≤ 5 ∧ (n9.toNat) < y4.length)) <|
     let y5 := w64 (y3 + (1 : Int))
     let y6 := stR y4 (n9.toNat) 2 [.i .i64 y5]
     chk (decide (0 ≤ n9) && decide (n9 < y6.length)) <|
     chk (decide (4 ≤ 5 ∧ (n9.toNat) < y6.length)) <|
     let y7 := w64 (y5 + (1 : Int))
     let y8 := w64 (y7 + (1 : Int))
     let y9 := t86 y8
     chk (okR zr86 zo86 y9) <|
     let y10 := stR y6 (n9.toNat) 3 [.i .i64 y7]
     chk (decide (0 ≤ n9) && decide (n9 < y10.length)) <|
     chk (decide (5 ≤ 5 ∧ (n9.toNat) < y10.length)) <|
     la47o0 t86 n8 q1 m (w64 (y8 + (1 : Int))) (w64 (n9 + (1 : Int))) (.d (.b y1)) (stR y10 (n9.toNat) 4 [.s (asS (resC y9 0 0))])
    else
     q1 n7 n9 y1 l11
/-- laws.markSessionS -/
def ta47 (t86 : Y86) (l1 : List (List D)) (n2 : Int) : Rs :=
  la47o0 t86 (0 : Int)
   (fun (n21 : Int) (n22 : Int) (b23 : Bool) (l24 : List (List D)) =>
    some ([.one (.i .i64 n21)], [[.l l24]])) KK n2 (0 : Int) SV.undef l1
def t47 : List (List D) → Int → Rs := ta47 t86
def zr47 : List DV := [.one (.i .i64 0)]
def zo47 : List (List D) := [[.l []]]
def A47 : List TA := [.one (.l), .one (.i .i64)]
def v47 (vs : List Vr) : Rs := t47 (vL vs 0) (vI vs 1)
def g47 (xs : List DV) : Bool × List DV × List (List D) := gOf zr47 zo47 (argsT A47 v47 xs)
abbrev Y47 := List (List D) → Int → Rs
/-- laws.markTenant -/
def ta15 (t45 : Y45) (t46 : Y46) (t47 : Y47) (n1 : Int) (l2 : List (List D)) (n3 : Int) (l4 : List (List D)) (l5 : List (List D)) (n6 : Int) : Rs :=
  let y1 := t45 n1 l2 n6
  chk (okR zr45 zo45 y1) <|
  let y2 := t46 l4 (asI (resC y1 0 0))
  chk (okR zr46 zo46 y2) <|
  let y3 := t47 l5 (asI (resC y2 0 0))
  chk (okR zr47 zo47 y3) <|
  some ([.one (.i .i64 (asI (resC y3 0 0)))], [[.i .i64 n1, .l (asL (outC y1 0 1)), .i .i64 n3, .l (asL (outC y2 0 0)), .l (asL (outC y3 0 0))]])
def t15 : Int → List (List D) → Int → List (List D) → List (List D) → Int → Rs := ta15 t45 t46 t47
def zr15 : List DV := [.one (.i .i64 0)]
def zo15 : List (List D) := [[.i .i64 0, .l [], .i .i64 0, .l [], .l []]]
def A15 : List TA := [.agg [.i .i64, .l, .i .i64, .l, .l], .one (.i .i64)]
def v15 (vs : List Vr) : Rs := t15 (vI vs 0) (vL vs 1) (vI vs 2) (vL vs 3) (vL vs 4) (vI vs 5)
def g15 (xs : List DV) : Bool × List DV × List (List D) := gOf zr15 zo15 (argsT A15 v15 xs)
abbrev Y15 := Int → List (List D) → Int → List (List D) → List (List D) → Int → Rs
def la88o0 (t86 : Y86) (l7 : List (List D)) (n9 : Int) (q1 : Int → Int → Bool → Bool → SV → Rs) (q2 : Int → Int → Bool → Bool → Bool → Rs) (q3 : Int → Int → Bool → SV → SV → Rs) : Nat → Int → Int → SV → SV → SV → Rs
  | 0, _, _, _, _, _ => none
  | m + 1, n8, n10, v11, v12, v13 =>
    let y1 := decide (n10 < (l7.length : Int))
    if y1 then
     let y2 := l7.getD n10.toNat []
     chk (decide (0 ≤ n10) && decide (n10 < l7.length) && isRow z129 y2) <|
     chk (okR zr86 zo86 (t86 n8)) <|
     let y3 := !((asS (nthD y2 0)).toList == (asS (resC (t86 n8) 0 0)).toList)
     if y3 then
      q1 n8 n10 y1 y3 v13
     else
      let y4 := l7.getD n10.toNat []
      chk (decide (0 ≤ n10) && decide (n10 < l7.length) && isRow z129 y4) <|
      let y5 := w64 (n8 + (1 : Int))
      let y6 := (asI (nthD y4 1)) != y5
      if y6 then
       q2 y5 n10 y1 y3 y6
      else
       la88o0 t86 l7 n9 q1 q2 q3 m (w64 (y5 + (1 : Int))) (w64 (n10 + (1 : Int))) (.d (.b y1)) (.d (.b y3)) (.d (.b y6))
    else
     q3 n8 n10 y1 (keepV [] v12) (keepV [] v13)
/-- laws.heldDirentS -/
def ta88 (t86 : Y86) (l1 : List (List D)) (n2 : Int) : Rs :=
  la88o0 t86 l1 (0 : Int)
   (fun (n36 : Int) (n37 : Int) (b38 : Bool) (b39 : Bool) (v40 : SV) =>
    some ([.one (.i .i64 (-1 : Int))], []))
   (fun (n41 : Int) (n42 : Int) (b43 : Bool) (b44 : Bool) (b45 : Bool) =>
    some ([.one (.i .i64 (-1 : Int))], []))
   (fun (n46 : Int) (n47 : Int) (b48 : Bool) (v49 : SV) (v50 : SV) =>
    some ([.one (.i .i64 n46)], [])) KK n2 (0 : Int) SV.undef SV.undef SV.undef
def t88 : List (List D) → Int → Rs := ta88 t86
def zr88 : List DV := [.one (.i .i64 0)]
def zo88 : List (List D) := []
def A88 : List TA := [.one (.l), .one (.i .i64)]
def v88 (vs : List Vr) : Rs := t88 (vL vs 0) (vI vs 1)
def g88 (xs : List DV) : Bool × List DV × List (List D) := gOf zr88 zo88 (argsT A88 v88 xs)
abbrev Y88 := List (List D) → Int → Rs
def la52o0 (t86 : Y86) (t88 : Y88) (l7 : List (List D)) (n9 : Int) (q1 : Int → Int → Bool → Bool → SV → SV → SV → SV → SV → SV → SV → SV → Rs) (q2 : Int → Int → Bool → Bool → Bool → SV → SV → SV → SV → SV → SV → SV → Rs) (q3 : Int → Int → Bool → Bool → Bool → Bool → SV → SV → SV → SV → SV → SV → Rs) (q4 : Int → Int → Bool → Bool → Bool → Bool → Bool → SV → SV → SV → SV → SV → Rs) (q5 : Int → Int → Bool → Bool → Bool → Bool → Bool → Bool → SV → SV → SV → SV → Rs) (q6 : Int → Int → Bool → Bool → Bool → Bool → Bool → Bool → Bool → SV → SV → SV → Rs) (q7 : Int → Int → Bool → Bool → Bool → Bool → Bool → Bool → Bool → Bool → SV → SV → Rs) (q8 : Int → Int → Bool → Bool → Bool → Bool → Bool → Bool → Bool → Bool → Bool → SV → Rs) (q9 : Int → Int → Bool → Bool → Bool → Bool → Bool → Bool → Bool → Bool → Bool → Bool → Rs) (q10 : Int → Int → Bool → SV → SV → SV → SV → SV → SV → SV → SV → SV → Rs) : Nat → Int → Int → SV → SV → SV → SV → SV → SV → SV → SV → SV → SV → Rs
  | 0, _, _, _, _, _, _, _, _, _, _, _, _ => none
  | m + 1, n8, n10, v11, v12, v13, v14, v15, v16, v17, v18, v19, v20 =>
    let y1 := decide (n10 < (l7.length : Int))
    if y1 then
     let y2 := l7.getD n10.toNat []
     chk (decide (0 ≤ n10) && decide (n10 < l7.length) && isRow z64 y2) <|
     let y3 := (asI (nthD y2 0)) != n8
     if y3 then
      q1 n8 n10 y1 y3 v13 v14 v15 v16 v17 v18 v19 v20
     else
      let y4 := l7.getD n10.toNat []
      chk (decide (0 ≤ n10) && decide (n10 < l7.length) && isRow z64 y4) <|
      let y5 := w64 (n8 + (1 : Int))
      let y6 := (asI (nthD y4 1)) != y5
      if y6 then
       q2 y5 n10 y1 y3 y6 v14 v15 v16 v17 v18 v19 v20
      else
       let y7 := l7.getD n10.toNat []
       chk (decide (0 ≤ n10) && decide (n10 < l7.length) && isRow z64 y7) <|
       let y8 := w64 (y5 + (1 : Int))
       let y9 := (asI (nthD y7 2)) != y8
       if y9 then
        q3 y8 n10 y1 y3 y6 y9 v15 v16 v17 v18 v19 v20
       else
        let y10 := l7.getD n10.toNat []
        chk (decide (0 ≤ n10) && decide (n10 < l7.length) && isRow z64 y10) <|
        let y11 := w64 (y8 + (1 : Int))
        let y12 := (asI (nthD y10 3)) != y11
        if y12 then
         q4 y11 n10 y1 y3 y6 y9 y12 v16 v17 v18 v19 v20
        else
         let y13 := l7.getD n10.toNat []
         chk (decide (0 ≤ n10) && decide (n10 < l7.length) && isRow z64 y13) <|
         let y14 := w64 (y11 + (1 : Int))
         let y15 := (asI (nthD y13 4)) != y14
         if y15 then
          q5 y14 n10 y1 y3 y6 y9 y12 y15 v17 v18 v19 v20
         else
          let y16 := l7.getD n10.toNat []
          chk (decide (0 ≤ n10) && decide (n10 < l7.length) && isRow z64 y16) <|
          let y17 := w64 (y14 + (1 : Int))
          let y18 := t86 y17
          chk (okR zr86 zo86 y18) <|
          let y19 := !((asS (nthD y16 5)).toList == (asS (resC y18 0 0)).toList)
          if y19 then
           q6 y17 n10 y1 y3 y6 y9 y12 y15 y19 v18 v19 v20
          else
           let y20 := l7.getD n10.toNat []
           chk (decide (0 ≤ n10) && decide (n10 < l7.length) && isRow z64 y20) <|
           let y21 := t88 (asL (nthD y20 6)) (w64 (y17 + (1 : Int)))
           chk (okR zr88 zo88 y21) <|
           let y22 := asI (resC y21 0 0)
           let y23 := decide (y22 < (0 : Int))
           if y23 then
            q7 y22 n10 y1 y3 y6 y9 y12 y15 y19 y23 v19 v20
           else
            let y24 := l7.getD n10.toNat []
            chk (decide (0 ≤ n10) && decide (n10 < l7.length) && isRow z64 y24) <|
            let y25 := (asI (nthD y24 7)) != y22
            if y25 then
             q8 y22 n10 y1 y3 y6 y9 y12 y15 y19 y23 y25 v20
            else
             let y26 := l7.getD n10.toNat []
             chk (decide (0 ≤ n10) && decide (n10 < l7.length) && isRow z64 y26) <|
             let y27 := w64 (y22 + (1 : Int))
             let y28 := (asI (nthD y26 8)) != y27
             if y28 then
              q9 y27 n10 y1 y3 y6 y9 y12 y15 y19 y23 y25 y28
             else
              la52o0 t86 t88 l7 n9 q1 q2 q3 q4 q5 q6 q7 q8 q9 q10 m (w64 (y27 + (1 : Int))) (w64 (n10 + (1 : Int))) (.d (.b y1)) (.d (.b y3)) (.d (.b y6)) (.d (.b y9)) (.d (.b y12)) (.d (.b y15)) (.d (.b y19)) (.d (.b y23)) (.d (.b y25)) (.d (.b y28))
    else
     q10 n8 n10 y1 (keepV [] v12) (keepV [] v13) (keepV [] v14) (keepV [] v15) (keepV [] v16) (keepV [] v17) (keepV [] v18) (keepV [] v19) (keepV [] v20)
/-- laws.heldInodeS -/
def ta52 (t86 : Y86) (t88 : Y88) (l1 : List (List D)) (n2 : Int) : Rs :=
  la52o0 t86 t88 l1 (0 : Int)
   (fun (n155 : Int) (n156 : Int) (b157 : Bool) (b158 : Bool) (v159 : SV) (v160 : SV) (v161 : SV) (v162 : SV) (v163 : SV) (v164 : SV) (v165 : SV) (v166 : SV) =>
    some ([.one (.i .i64 (-1 : Int))], []))
   (fun (n167 : Int) (n168 : Int) (b169 : Bool) (b170 : Bool) (b171 : Bool) (v172 : SV) (v173 : SV) (v174 : SV) (v175 : SV) (v176 : SV) (v177 : SV) (v178 : SV) =>
    some ([.one (.i .i64 (-1 : Int))], []))
   (fun (n179 : Int) (n180 : Int) (b181 : Bool) (b182 : Bool) (b183 : Bool) (b184 : Bool) (v185 : SV) (v186 : SV) (v187 : SV) (v188 : SV) (v189 : SV) (v190 : SV) =>
    some ([.one (.i .i64 (-1 : Int))], []))
   (fun (n191 : Int) (n192 : Int) (b193 : Bool) (b194 : Bool) (b195 : Bool) (b196 : Bool) (b197 : Bool) (v198 : SV) (v199 : SV) (v200 : SV) (v201 : SV) (v202 : SV) =>
    some ([.one (.i .i64 (-1 : Int))], []))
   (fun (n203 : Int) (n204 : Int) (b205 : Bool) (b206 : Bool) (b207 : Bool) (b208 : Bool) (b209 : Bool) (b210 : Bool) (v211 : SV) (v212 : SV) (v213 : SV) (v214 : SV) =>
    some ([.one (.i .i64 (-1 : Int))], []))
   (fun (n215 : Int) (n216 : Int) (b217 : Bool) (b218 : Bool) (b219 : Bool) (b220 : Bool) (b221 : Bool) (b222 : Bool) (b223 : Bool) (v224 : SV) (v225 : SV) (v226 : SV) =>
    some ([.one (.i .i64 (-1 : Int))], []))
   (fun (n227 : Int) (n228 : Int) (b229 : Bool) (b230 : Bool) (b231 : Bool) (b232 : Bool) (b233 : Bool) (b234 : Bool) (b235 : Bool) (b236 : Bool) (v237 : SV) (v238 : SV) =>
    some ([.one (.i .i64 (-1 : Int))], []))
   (fun (n239 : Int) (n240 : Int) (b241 : Bool) (b242 : Bool) (b243 : Bool) (b244 : Bool) (b245 : Bool) (b246 : Bool) (b247 : Bool) (b248 : Bool) (b249 : Bool) (v250 : SV) =>
    some ([.one (.i .i64 (-1 : Int))], []))
   (fun (n251 : Int) (n252 : Int) (b253 : Bool) (b254 : Bool) (b255 : Bool) (b256 : Bool) (b257 : Bool) (b258 : Bool) (b259 : Bool) (b260 : Bool) (b261 : Bool) (b262 : Bool) =>
    some ([.one (.i .i64 (-1 : Int))], []))
   (fun (n263 : Int) (n264 : Int) (b265 : Bool) (v266 : SV) (v267 : SV) (v268 : SV) (v269 : SV) (v270 : SV) (v271 : SV) (v272 : SV) (v273 : SV) (v274 : SV) =>
    some ([.one (.i .i64 n263)], [])) KK n2 (0 : Int) SV.undef SV.undef SV.undef SV.undef SV.undef SV.undef SV.undef SV.undef SV.undef SV.undef
def t52 : List (List D) → Int → Rs := ta52 t86 t88
def zr52 : List DV := [.one (.i .i64 0)]
def zo52 : List (List D) := []
def A52 : List TA := [.one (.l), .one (.i .i64)]
def v52 (vs : List Vr) : Rs := t52 (vL vs 0) (vI vs 1)
def g52 (xs : List DV) : Bool × List DV × List (List D) := gOf zr52 zo52 (argsT A52 v52 xs)
abbrev Y52 := List (List D) → Int → Rs
/-- laws.heldVol -/
def ta48 (t52 : Y52) (n1 : Int) (l2 : List (List D)) (n3 : Int) : Rs :=
  chk (okR zr52 zo52 (t52 l2 n3)) <|
  let y1 := asI (resC (t52 l2 n3) 0 0)
  if decide (y1 < (0 : Int)) then
   some ([.one (.i .i64 (-1 : Int))], [])
  else
   some ([.one (.i .i64 y1)], [])
def t48 : Int → List (List D) → Int → Rs := ta48 t52
def zr48 : List DV := [.one (.i .i64 0)]
def zo48 : List (List D) := []
def A48 : List TA := [.agg [.i .i64, .l], .one (.i .i64)]
def v48 (vs : List Vr) : Rs := t48 (vI vs 0) (vL vs 1) (vI vs 2)
def g48 (xs : List DV) : Bool × List DV × List (List D) := gOf zr48 zo48 (argsT A48 v48 xs)
abbrev Y48 := Int → List (List D) → Int → Rs
def l49o0 (l7 : List (List D)) (n9 : Int) (q1 : Int → Int → Bool → Bool → SV → SV → SV → SV → Rs) (q2 : Int → Int → Bool → Bool → Bool → SV → SV → SV → Rs) (q3 : Int → Int → Bool → Bool → Bool → Bool → SV → SV → Rs) (q4 : Int → Int → Bool → Bool → Bool → Bool → Bool → SV → Rs) (q5 : Int → Int → Bool → Bool → Bool → Bool → Bool → Bool → Rs) (q6 : Int → Int → Bool → SV → SV → SV → SV → SV → Rs) : Nat → Int → Int → SV → SV → SV → SV → SV → SV → Rs
  | 0, _, _, _, _, _, _, _, _ => none
  | m + 1, n8, n10, v11, v12, v13, v14, v15, v16 =>
    let y1 := decide (n10 < (l7.length : Int))
    if y1 then
     let y2 := l7.getD n10.toNat []
     chk (decide (0 ≤ n10) && decide (n10 < l7.length) && isRow z90 y2) <|
     let y3 := (asI (nthD y2 0)) != n8
     if y3 then
      q1 n8 n10 y1 y3 v13 v14 v15 v16
     else
      let y4 := l7.getD n10.toNat []
      chk (decide (0 ≤ n10) && decide (n10 < l7.length) && isRow z90 y4) <|
      let y5 := w64 (n8 + (1 : Int))
      let y6 := (asI (nthD y4 1)) != y5
      if y6 then
       q2 y5 n10 y1 y3 y6 v14 v15 v16
      else
       let y7 := l7.getD n10.toNat []
       chk (decide (0 ≤ n10) && decide (n10 < l7.length) && isRow z90 y7) <|
       let y8 := w64 (y5 + (1 : Int))
       let y9 := (asI (nthD y7 2)) != y8
       if y9 then
        q3 y8 n10 y1 y3 y6 y9 v15 v16
       else
        let y10 := l7.getD n10.toNat []
        chk (decide (0 ≤ n10) && decide (n10 < l7.length) && isRow z90 y10) <|
        let y11 := w64 (y8 + (1 : Int))
        let y12 := (asI (nthD y10 3)) != y11
        if y12 then
         q4 y11 n10 y1 y3 y6 y9 y12 v16
        else
         let y13 := l7.getD n10.toNat []
         chk (decide (0 ≤ n10) && decide (n10 < l7.length) && isRow z90 y13) <|
         let y14 := w64 (y11 + (1 : Int))
         let y15 := (asI (nthD y13 4)) != y14
         if y15 then
          q5 y14 n10 y1 y3 y6 y9 y12 y15
         else
          l49o0 l7 n9 q1 q2 q3 q4 q5 q6 m (w64 (y14 + (1 : Int))) (w64 (n10 + (1 : Int))) (.d (.b y1)) (.d (.b y3)) (.d (.b y6)) (.d (.b y9)) (.d (.b y12)) (.d (.b y15))
    else
     q6 n8 n10 y1 (keepV [] v12) (keepV [] v13) (keepV [] v14) (keepV [] v15) (keepV [] v16)
/-- laws.heldNoteS -/
def t49 (l1 : List (List D)) (n2 : Int) : Rs :=
  l49o0 l1 (0 : Int)
   (fun (n75 : Int) (n76 : Int) (b77 : Bool) (b78 : Bool) (v79 : SV) (v80 : SV) (v81 : SV) (v82 : SV) =>
    some ([.one (.i .i64 (-1 : Int))], []))
   (fun (n83 : Int) (n84 : Int) (b85 : Bool) (b86 : Bool) (b87 : Bool) (v88 : SV) (v89 : SV) (v90 : SV) =>
    some ([.one (.i .i64 (-1 : Int))], []))
   (fun (n91 : Int) (n92 : Int) (b93 : Bool) (b94 : Bool) (b95 : Bool) (b96 : Bool) (v97 : SV) (v98 : SV) =>
    some ([.one (.i .i64 (-1 : Int))], []))
   (fun (n99 : Int) (n100 : Int) (b101 : Bool) (b102 : Bool) (b103 : Bool) (b104 : Bool) (b105 : Bool) (v106 : SV) =>
    some ([.one (.i .i64 (-1 : Int))], []))
   (fun (n107 : Int) (n108 : Int) (b109 : Bool) (b110 : Bool) (b111 : Bool) (b112 : Bool) (b113 : Bool) (b114 : Bool) =>
    some ([.one (.i .i64 (-1 : Int))], []))
   (fun (n115 : Int) (n116 : Int) (b117 : Bool) (v118 : SV) (v119 : SV) (v120 : SV) (v121 : SV) (v122 : SV) =>
    some ([.one (.i .i64 n115)], [])) KK n2 (0 : Int) SV.undef SV.undef SV.undef SV.undef SV.undef SV.undef
def zr49 : List DV := [.one (.i .i64 0)]
def zo49 : List (List D) := []
def A49 : List TA := [.one (.l), .one (.i .i64)]
def v49 (vs : List Vr) : Rs := t49 (vL vs 0) (vI vs 1)
def g49 (xs : List DV) : Bool × List DV × List (List D) := gOf zr49 zo49 (argsT A49 v49 xs)
abbrev Y49 := List (List D) → Int → Rs
def la50o0 (t86 : Y86) (l7 : List (List D)) (n9 : Int) (q1 : Int → Int → Bool → Bool → SV → SV → SV → SV → Rs) (q2 : Int → Int → Bool → Bool → Bool → SV → SV → SV → Rs) (q3 : Int → Int → Bool → Bool → Bool → Bool → SV → SV → Rs) (q4 : Int → Int → Bool → Bool → Bool → Bool → Bool → SV → Rs) (q5 : Int → Int → Bool → Bool → Bool → Bool → Bool → Bool → Rs) (q6 : Int → Int → Bool → SV → SV → SV → SV → SV → Rs) : Nat → Int → Int → SV → SV → SV → SV → SV → SV → Rs
  | 0, _, _, _, _, _, _, _, _ => none
  | m + 1, n8, n10, v11, v12, v13, v14, v15, v16 =>
    let y1 := decide (n10 < (l7.length : Int))
    if y1 then
     let y2 := l7.getD n10.toNat []
     chk (decide (0 ≤ n10) && decide (n10 < l7.length) && isRow z81 y2) <|
     let y3 := (asI (nthD y2 0)) != n8
     if y3 then
      q1 n8 n10 y1 y3 v13 v14 v15 v16
     else
      let y4 := l7.getD n10.toNat []
      chk (decide (0 ≤ n10) && decide (n10 < l7.length) && isRow z81 y4) <|
      let y5 := w64 (n8 + (1 : Int))
      let y6 := (asI (nthD y4 1)) != y5
      if y6 then
       q2 y5 n10 y1 y3 y6 v14 v15 v16
      else
       let y7 := l7.getD n10.toNat []
       chk (decide (0 ≤ n10) && decide (n10 < l7.length) && isRow z81 y7) <|
       let y8 := w64 (y5 + (1 : Int))
       let y9 := (asI (nthD y7 2)) != y8
       if y9 then
        q3 y8 n10 y1 y3 y6 y9 v15 v16
       else
        let y10 := l7.getD n10.toNat []
        chk (decide (0 ≤ n10) && decide (n10 < l7.length) && isRow z81 y10) <|
        let y11 := w64 (y8 + (1 : Int))
        let y12 := (asI (nthD y10 3)) != y11
        if y12 then
         q4 y11 n10 y1 y3 y6 y9 y12 v16
        else
         let y13 := l7.getD n10.toNat []
         chk (decide (0 ≤ n10) && decide (n10 < l7.length) && isRow z81 y13) <|
         let y14 := w64 (y11 + (1 : Int))
         let y15 := t86 y14
         chk (okR zr86 zo86 y15) <|
         let y16 := !((asS (nthD y13 4)).toList == (asS (resC y15 0 0)).toList)
         if y16 then
          q5 y14 n10 y1 y3 y6 y9 y12 y16
         else
          la50o0 t86 l7 n9 q1 q2 q3 q4 q5 q6 m (w64 (y14 + (1 : Int))) (w64 (n10 + (1 : Int))) (.d (.b y1)) (.d (.b y3)) (.d (.b y6)) (.d (.b y9)) (.d (.b y12)) (.d (.b y16))
    else
     q6 n8 n10 y1 (keepV [] v12) (keepV [] v13) (keepV [] v14) (keepV [] v15) (keepV [] v16)
/-- laws.heldSessionS -/
def ta50 (t86 : Y86) (l1 : List (List D)) (n2 : Int) : Rs :=
  la50o0 t86 l1 (0 : Int)
   (fun (n75 : Int) (n76 : Int) (b77 : Bool) (b78 : Bool) (v79 : SV) (v80 : SV) (v81 : SV) (v82 : SV) =>
    some ([.one (.i .i64 (-1 : Int))], []))
   (fun (n83 : Int) (n84 : Int) (b85 : Bool) (b86 : Bool) (b87 : Bool) (v88 : SV) (v89 : SV) (v90 : SV) =>
    some ([.one (.i .i64 (-1 : Int))], []))
   (fun (n91 : Int) (n92 : Int) (b93 : Bool) (b94 : Bool) (b95 : Bool) (b96 : Bool) (v97 : SV) (v98 : SV) =>
    some ([.one (.i .i64 (-1 : Int))], []))
   (fun (n99 : Int) (n100 : Int) (b101 : Bool) (b102 : Bool) (b103 : Bool) (b104 : Bool) (b105 : Bool) (v106 : SV) =>
    some ([.one (.i .i64 (-1 : Int))], []))
   (fun (n107 : Int) (n108 : Int) (b109 : Bool) (b110 : Bool) (b111 : Bool) (b112 : Bool) (b113 : Bool) (b114 : Bool) =>
    some ([.one (.i .i64 (-1 : Int))], []))
   (fun (n115 : Int) (n116 : Int) (b117 : Bool) (v118 : SV) (v119 : SV) (v120 : SV) (v121 : SV) (v122 : SV) =>
    some ([.one (.i .i64 n115)], [])) KK n2 (0 : Int) SV.undef SV.undef SV.undef SV.undef SV.undef SV.undef
def t50 : List (List D) → Int → Rs := ta50 t86
def zr50 : List DV := [.one (.i .i64 0)]
def zo50 : List (List D) := []
def A50 : List TA := [.one (.l), .one (.i .i64)]
def v50 (vs : List Vr) : Rs := t50 (vL vs 0) (vI vs 1)
def g50 (xs : List DV) : Bool × List DV × List (List D) := gOf zr50 zo50 (argsT A50 v50 xs)
abbrev Y50 := List (List D) → Int → Rs
/-- laws.heldTenant -/
def ta16 (t48 : Y48) (t49 : Y49) (t50 : Y50) (n1 : Int) (l2 : List (List D)) (n3 : Int) (l4 : List (List D)) (l5 : List (List D)) (n6 : Int) : Rs :=
  let y1 := t48 n1 l2 n6
  chk (okR zr48 zo48 y1) <|
  let y2 := asI (resC y1 0 0)
  if decide (y2 < (0 : Int)) then
   some ([.one (.i .i64 (-1 : Int))], [])
  else
   let y3 := t49 l4 y2
   chk (okR zr49 zo49 y3) <|
   let y4 := asI (resC y3 0 0)
   if decide (y4 < (0 : Int)) then
    some ([.one (.i .i64 (-1 : Int))], [])
   else
    let y5 := t50 l5 y4
    chk (okR zr50 zo50 y5) <|
    let y6 := asI (resC y5 0 0)
    if decide (y6 < (0 : Int)) then
     some ([.one (.i .i64 (-1 : Int))], [])
    else
     some ([.one (.i .i64 y6)], [])
def t16 : Int → List (List D) → Int → List (List D) → List (List D) → Int → Rs := ta16 t48 t49 t50
def zr16 : List DV := [.one (.i .i64 0)]
def zo16 : List (List D) := []
def A16 : List TA := [.agg [.i .i64, .l, .i .i64, .l, .l], .one (.i .i64)]
def v16 (vs : List Vr) : Rs := t16 (vI vs 0) (vL vs 1) (vI vs 2) (vL vs 3) (vL vs 4) (vI vs 5)
def g16 (xs : List DV) : Bool × List DV × List (List D) := gOf zr16 zo16 (argsT A16 v16 xs)
abbrev Y16 := Int → List (List D) → Int → List (List D) → List (List D) → Int → Rs
/-- laws.FnExactTenantTick -/
def ta9 (t14 : Y14) (t15 : Y15) (t16 : Y16) (t22 : Y22) (t24 : Y24) (t34 : Y34) (t35 : Y35) (n1 : Int) (l2 : List (List D)) (n3 : Int) (l4 : List (List D)) (l5 : List (List D)) : Rs :=
  let y1 := t22 n1 l2 n3 l4 l5 (1048576 : Int)
  chk (okR zr22 zo22 y1) <|
  if decide ((asI (resC y1 0 0)) < (0 : Int)) then
   some ([.one (.b true)], [])
  else
   let y2 := t24 n1 l2 n3 l4 l5
   chk (okR zr24 zo24 y2) <|
   let y3 := t34 (asI (resC y2 0 0)) (asL (resC y2 0 1)) (asI (resC y2 0 2)) (asL (resC y2 0 3)) (asL (resC y2 0 4))
   chk (okR zr34 zo34 y3) <|
   let y4 := t24 n1 l2 n3 l4 l5
   chk (okR zr24 zo24 y4) <|
   let y5 := asI (resC y4 0 0)
   let y6 := asL (resC y4 0 1)
   let y7 := asI (resC y4 0 2)
   let y8 := asL (resC y4 0 3)
   let y9 := asL (resC y4 0 4)
   let y10 := t35 y5 y6 y7 y8 y9
   chk (okR zr35 zo35 y10) <|
   let y11 := asI (resC y10 0 0)
   let y12 := asL (resC y10 0 1)
   let y13 := asI (resC y10 0 2)
   let y14 := asL (resC y10 0 3)
   let y15 := asL (resC y10 0 4)
   let y16 := asI (resC y3 0 0)
   let y17 := asL (resC y3 0 1)
   let y18 := asI (resC y3 0 2)
   let y19 := asL (resC y3 0 3)
   let y20 := asL (resC y3 0 4)
   let y21 := t14 y11 y12 y13 y14 y15 y16 y17 y18 y19 y20
   chk (okR zr14 zo14 y21) <|
   if !(asB (resC y21 0 0)) then
    some ([.one (.b false)], [])
   else
    let y22 := t24 n1 l2 n3 l4 l5
    chk (okR zr24 zo24 y22) <|
    let y23 := t14 y5 y6 y7 y8 y9 (asI (resC y22 0 0)) (asL (resC y22 0 1)) (asI (resC y22 0 2)) (asL (resC y22 0 3)) (asL (resC y22 0 4))
    chk (okR zr14 zo14 y23) <|
    if !(asB (resC y23 0 0)) then
     some ([.one (.b false)], [])
    else
     let y24 := t15 y5 y6 y7 y8 y9 (1 : Int)
     chk (okR zr15 zo15 y24) <|
     let y25 := t14 y11 y12 y13 y14 y15 y16 y17 y18 y19 y20
     let y26 := decide ((asI (resC y24 0 0)) < (0 : Int))
     chk ((okR zr14 zo14 y25) || !(!y26)) <|
     if y26 || (!(asB (resC y25 0 0))) then
      some ([.one (.b false)], [])
     else
      let y27 := t15 y11 y12 y13 y14 y15 (1 : Int)
      chk (okR zr15 zo15 y27) <|
      let y28 := asL (outC y27 0 1)
      let y29 := asL (outC y27 0 3)
      let y30 := asL (outC y27 0 4)
      let y31 := t16 y11 y28 y13 y29 y30 (1 : Int)
      chk (okR zr16 zo16 y31) <|
      let y32 := asI (resC y31 0 0)
      if decide (y32 < (0 : Int)) then
       some ([.one (.b false)], [])
      else
       let y33 := asI (resC y27 0 0)
       if y32 != y33 then
        some ([.one (.b false)], [])
       else
        let y34 := t24 n1 l2 n3 l4 l5
        chk (okR zr24 zo24 y34) <|
        let y35 := t35 (asI (resC y34 0 0)) (asL (resC y34 0 1)) (asI (resC y34 0 2)) (asL (resC y34 0 3)) (asL (resC y34 0 4))
        chk (okR zr35 zo35 y35) <|
        let y36 := t14 (asI (resC y35 0 0)) (asL (resC y35 0 1)) (asI (resC y35 0 2)) (asL (resC y35 0 3)) (asL (resC y35 0 4)) y16 y17 y18 y19 y20
        chk (okR zr14 zo14 y36) <|
        if !(asB (resC y36 0 0)) then
         some ([.one (.b false)], [])
        else
         let y37 := t16 y11 y28 y13 y29 y30 (1 : Int)
         chk (okR zr16 zo16 y37) <|
         let y38 := asI (resC y37 0 0)
         if decide (y38 < (0 : Int)) then
          some ([.one (.b false)], [])
         else
          if y38 != y33 then
           some ([.one (.b false)], [])
          else
           some ([.one (.b true)], [])
def t9 : Int → List (List D) → Int → List (List D) → List (List D) → Rs := ta9 t14 t15 t16 t22 t24 t34 t35
def zr9 : List DV := [.one (.b false)]
def zo9 : List (List D) := []
def A9 : List TA := [.agg [.i .i64, .l, .i .i64, .l, .l]]
def v9 (vs : List Vr) : Rs := t9 (vI vs 0) (vL vs 1) (vI vs 2) (vL vs 3) (vL vs 4)
def g9 (xs : List DV) : Bool × List DV × List (List D) := gOf zr9 zo9 (argsT A9 v9 xs)
end
end Go.Den.L9
