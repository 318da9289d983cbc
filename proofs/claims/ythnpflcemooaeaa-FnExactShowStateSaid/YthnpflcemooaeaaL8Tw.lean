/- What the functions come to, as plain Lean. Printed by tw.py. -/
import Derived.Test.YthnpflcemooaeaaDm8
set_option linter.unusedVariables false
namespace Go.Den.L8
open Go
noncomputable section
/-- The rounds that a loop is given: 2 ^ 64; so laid that nothing unfolds it. -/
noncomputable def KK : Nat := Classical.choose (⟨2 ^ 64, rfl⟩ : ∃ n : Nat, n = 2 ^ 64)
def w64 (x : Int) : Int := IntKind.wrap .i64 x
def chk (b : Bool) (x : Rs) : Rs := if b then x else none
def bitAnd (k : IntKind) (a b : Int) : Int := k.wrap (BitVec.ofInt k.bits a &&& BitVec.ofInt k.bits b).toNat
def bitOr (k : IntKind) (a b : Int) : Int := k.wrap (BitVec.ofInt k.bits a ||| BitVec.ofInt k.bits b).toNat
def bitXor (k : IntKind) (a b : Int) : Int := k.wrap (BitVec.ofInt k.bits a ^^^ BitVec.ofInt k.bits b).toNat
def stR (xs : List (List D)) (i off : Nat) (ys : List D) : List (List D) := xs.modify i fun r => r.take off ++ ys ++ r.drop (off + ys.length)
def z3 : List D := [.i .i64 0]
def z4 : List D := [.b false]
def z28 : List D := [.i .i64 0, .l [], .i .i64 0, .l [], .l []]
def z43 : List D := [.i .i64 0, .l [], .i .i64 0, .l [], .l []]
def z64 : List D := [.i .i64 0, .i .i64 0, .i .i64 0, .i .i64 0, .i .i64 0, .s ⟨#[]⟩, .l [], .i .i64 0, .i .i64 0]
def z81 : List D := [.i .i64 0, .i .i64 0, .i .i64 0, .i .i64 0, .s ⟨#[]⟩]
def z90 : List D := [.i .i64 0, .i .i64 0, .i .i64 0, .i .i64 0, .i .i64 0]
def z114 : List D := [.i .i64 0, .i .i64 0, .i .i64 0, .i .i64 0, .s ⟨#[]⟩]
def z121 : List D := [.i .i64 0, .i .i64 0, .i .i64 0, .i .i64 0, .i .i64 0]
def z129 : List D := [.s ⟨#[]⟩, .i .i64 0]
def z142 : List D := [.i .i64 0, .i .i64 0, .i .i64 0, .i .i64 0, .i .i64 0, .s ⟨#[]⟩, .l [], .i .i64 0, .i .i64 0]
def z160 : List D := [.s ⟨#[]⟩, .i .i64 0]
/-- laws.szDirent -/
def t144 (s1 : ByteArray) (n2 : Int) (n3 : Int) : Rs :=
  let y1 := w64 (n3 - (s1.size : Int))
  if decide (y1 < (0 : Int)) then
   some ([.one (.i .i64 (-1 : Int))], [])
  else
   some ([.one (.i .i64 y1)], [])
def zr144 : List DV := [.one (.i .i64 0)]
def zo144 : List (List D) := []
def A144 : List TA := [.agg [.s, .i .i64], .one (.i .i64)]
def v144 (vs : List Vr) : Rs := t144 (vS vs 0) (vI vs 1) (vI vs 2)
def g144 (xs : List DV) : Bool × List DV × List (List D) := gOf zr144 zo144 (argsT A144 v144 xs)
abbrev Y144 := ByteArray → Int → Int → Rs
def la138o1 (t144 : Y144) (l8 : List (List D)) (n10 : Int) (b12 : Bool) (q1 : Int → Int → Bool → Bool → Rs) (q2 : Int → Int → Bool → SV → Rs) : Nat → Int → Int → SV → SV → Rs
  | 0, _, _, _, _ => none
  | m + 1, n9, n11, v13, v14 =>
    let y1 := decide (n11 < (l8.length : Int))
    if y1 then
     let y2 := l8.getD n11.toNat []
     chk (decide (0 ≤ n11) && decide (n11 < l8.length) && isRow z160 y2) <|
     let y3 := t144 (asS (nthD y2 0)) (asI (nthD y2 1)) n9
     chk (okR zr144 zo144 y3) <|
     let y4 := asI (resC y3 0 0)
     let y5 := decide (y4 < (0 : Int))
     if y5 then
      q1 y4 n11 y1 y5
     else
      la138o1 t144 l8 n10 b12 q1 q2 m y4 (w64 (n11 + (1 : Int))) (.d (.b y1)) (.d (.b y5))
    else
     q2 n9 n11 y1 (keepV [] v14)
/-- laws.szDirentS -/
def ta138 (t144 : Y144) (l1 : List (List D)) (n2 : Int) : Rs :=
  let y1 := w64 (n2 - (l1.length : Int))
  let y2 := decide (y1 < (0 : Int))
  if y2 then
   some ([.one (.i .i64 (-1 : Int))], [])
  else
   la138o1 t144 l1 (0 : Int) y2
    (fun (n30 : Int) (n31 : Int) (b32 : Bool) (b33 : Bool) =>
     some ([.one (.i .i64 (-1 : Int))], []))
    (fun (n34 : Int) (n35 : Int) (b36 : Bool) (v37 : SV) =>
     some ([.one (.i .i64 n34)], [])) KK y1 (0 : Int) SV.undef SV.undef
def t138 : List (List D) → Int → Rs := ta138 t144
def zr138 : List DV := [.one (.i .i64 0)]
def zo138 : List (List D) := []
def A138 : List TA := [.one (.l), .one (.i .i64)]
def v138 (vs : List Vr) : Rs := t138 (vL vs 0) (vI vs 1)
def g138 (xs : List DV) : Bool × List DV × List (List D) := gOf zr138 zo138 (argsT A138 v138 xs)
abbrev Y138 := List (List D) → Int → Rs
/-- laws.szInode -/
def ta122 (t138 : Y138) (n1 : Int) (n2 : Int) (n3 : Int) (n4 : Int) (n5 : Int) (s6 : ByteArray) (l7 : List (List D)) (n8 : Int) (n9 : Int) (n10 : Int) : Rs :=
  let y1 := w64 (n10 - (s6.size : Int))
  if decide (y1 < (0 : Int)) then
   some ([.one (.i .i64 (-1 : Int))], [])
  else
   let y2 := t138 l7 y1
   chk (okR zr138 zo138 y2) <|
   let y3 := asI (resC y2 0 0)
   if decide (y3 < (0 : Int)) then
    some ([.one (.i .i64 (-1 : Int))], [])
   else
    some ([.one (.i .i64 y3)], [])
def t122 : Int → Int → Int → Int → Int → ByteArray → List (List D) → Int → Int → Int → Rs := ta122 t138
def zr122 : List DV := [.one (.i .i64 0)]
def zo122 : List (List D) := []
def A122 : List TA := [.agg [.i .i64, .i .i64, .i .i64, .i .i64, .i .i64, .s, .l, .i .i64, .i .i64], .one (.i .i64)]
def v122 (vs : List Vr) : Rs := t122 (vI vs 0) (vI vs 1) (vI vs 2) (vI vs 3) (vI vs 4) (vS vs 5) (vL vs 6) (vI vs 7) (vI vs 8) (vI vs 9)
def g122 (xs : List DV) : Bool × List DV × List (List D) := gOf zr122 zo122 (argsT A122 v122 xs)
abbrev Y122 := Int → Int → Int → Int → Int → ByteArray → List (List D) → Int → Int → Int → Rs
def la89o1 (t122 : Y122) (l8 : List (List D)) (n10 : Int) (b12 : Bool) (q1 : Int → Int → Bool → Bool → Rs) (q2 : Int → Int → Bool → SV → Rs) : Nat → Int → Int → SV → SV → Rs
  | 0, _, _, _, _ => none
  | m + 1, n9, n11, v13, v14 =>
    let y1 := decide (n11 < (l8.length : Int))
    if y1 then
     let y2 := l8.getD n11.toNat []
     chk (decide (0 ≤ n11) && decide (n11 < l8.length) && isRow z142 y2) <|
     let y3 := t122 (asI (nthD y2 0)) (asI (nthD y2 1)) (asI (nthD y2 2)) (asI (nthD y2 3)) (asI (nthD y2 4)) (asS (nthD y2 5)) (asL (nthD y2 6)) (asI (nthD y2 7)) (asI (nthD y2 8)) n9
     chk (okR zr122 zo122 y3) <|
     let y4 := asI (resC y3 0 0)
     let y5 := decide (y4 < (0 : Int))
     if y5 then
      q1 y4 n11 y1 y5
     else
      la89o1 t122 l8 n10 b12 q1 q2 m y4 (w64 (n11 + (1 : Int))) (.d (.b y1)) (.d (.b y5))
    else
     q2 n9 n11 y1 (keepV [] v14)
/-- laws.szInodeS -/
def ta89 (t122 : Y122) (l1 : List (List D)) (n2 : Int) : Rs :=
  let y1 := w64 (n2 - (l1.length : Int))
  let y2 := decide (y1 < (0 : Int))
  if y2 then
   some ([.one (.i .i64 (-1 : Int))], [])
  else
   la89o1 t122 l1 (0 : Int) y2
    (fun (n30 : Int) (n31 : Int) (b32 : Bool) (b33 : Bool) =>
     some ([.one (.i .i64 (-1 : Int))], []))
    (fun (n34 : Int) (n35 : Int) (b36 : Bool) (v37 : SV) =>
     some ([.one (.i .i64 n34)], [])) KK y1 (0 : Int) SV.undef SV.undef
def t89 : List (List D) → Int → Rs := ta89 t122
def zr89 : List DV := [.one (.i .i64 0)]
def zo89 : List (List D) := []
def A89 : List TA := [.one (.l), .one (.i .i64)]
def v89 (vs : List Vr) : Rs := t89 (vL vs 0) (vI vs 1)
def g89 (xs : List DV) : Bool × List DV × List (List D) := gOf zr89 zo89 (argsT A89 v89 xs)
abbrev Y89 := List (List D) → Int → Rs
/-- laws.szVol -/
def ta53 (t89 : Y89) (n1 : Int) (l2 : List (List D)) (n3 : Int) : Rs :=
  chk (okR zr89 zo89 (t89 l2 n3)) <|
  let y1 := asI (resC (t89 l2 n3) 0 0)
  if decide (y1 < (0 : Int)) then
   some ([.one (.i .i64 (-1 : Int))], [])
  else
   some ([.one (.i .i64 y1)], [])
def t53 : Int → List (List D) → Int → Rs := ta53 t89
def zr53 : List DV := [.one (.i .i64 0)]
def zo53 : List (List D) := []
def A53 : List TA := [.agg [.i .i64, .l], .one (.i .i64)]
def v53 (vs : List Vr) : Rs := t53 (vI vs 0) (vL vs 1) (vI vs 2)
def g53 (xs : List DV) : Bool × List DV × List (List D) := gOf zr53 zo53 (argsT A53 v53 xs)
abbrev Y53 := Int → List (List D) → Int → Rs
/-- laws.szNoteS -/
def t54 (l1 : List (List D)) (n2 : Int) : Rs :=
  let y1 := w64 (n2 - (l1.length : Int))
  if decide (y1 < (0 : Int)) then
   some ([.one (.i .i64 (-1 : Int))], [])
  else
   some ([.one (.i .i64 y1)], [])
def zr54 : List DV := [.one (.i .i64 0)]
def zo54 : List (List D) := []
def A54 : List TA := [.one (.l), .one (.i .i64)]
def v54 (vs : List Vr) : Rs := t54 (vL vs 0) (vI vs 1)
def g54 (xs : List DV) : Bool × List DV × List (List D) := gOf zr54 zo54 (argsT A54 v54 xs)
abbrev Y54 := List (List D) → Int → Rs
/-- laws.szResult -/
def t123 (n1 : Int) (s2 : ByteArray) (n3 : Int) : Rs :=
  let y1 := w64 (n3 - (s2.size : Int))
  if decide (y1 < (0 : Int)) then
   some ([.one (.i .i64 (-1 : Int))], [])
  else
   some ([.one (.i .i64 y1)], [])
def zr123 : List DV := [.one (.i .i64 0)]
def zo123 : List (List D) := []
def A123 : List TA := [.agg [.i .i64, .s], .one (.i .i64)]
def v123 (vs : List Vr) : Rs := t123 (vI vs 0) (vS vs 1) (vI vs 2)
def g123 (xs : List DV) : Bool × List DV × List (List D) := gOf zr123 zo123 (argsT A123 v123 xs)
abbrev Y123 := Int → ByteArray → Int → Rs
/-- laws.szSession -/
def ta90 (t123 : Y123) (n1 : Int) (n2 : Int) (n3 : Int) (n4 : Int) (s5 : ByteArray) (n6 : Int) : Rs :=
  let y1 := t123 n4 s5 n6
  chk (okR zr123 zo123 y1) <|
  let y2 := asI (resC y1 0 0)
  if decide (y2 < (0 : Int)) then
   some ([.one (.i .i64 (-1 : Int))], [])
  else
   some ([.one (.i .i64 y2)], [])
def t90 : Int → Int → Int → Int → ByteArray → Int → Rs := ta90 t123
def zr90 : List DV := [.one (.i .i64 0)]
def zo90 : List (List D) := []
def A90 : List TA := [.agg [.i .i64, .i .i64, .i .i64, .i .i64, .s], .one (.i .i64)]
def v90 (vs : List Vr) : Rs := t90 (vI vs 0) (vI vs 1) (vI vs 2) (vI vs 3) (vS vs 4) (vI vs 5)
def g90 (xs : List DV) : Bool × List DV × List (List D) := gOf zr90 zo90 (argsT A90 v90 xs)
abbrev Y90 := Int → Int → Int → Int → ByteArray → Int → Rs
def la55o1 (t90 : Y90) (l8 : List (List D)) (n10 : Int) (b12 : Bool) (q1 : Int → Int → Bool → Bool → Rs) (q2 : Int → Int → Bool → SV → Rs) : Nat → Int → Int → SV → SV → Rs
  | 0, _, _, _, _ => none
  | m + 1, n9, n11, v13, v14 =>
    let y1 := decide (n11 < (l8.length : Int))
    if y1 then
     let y2 := l8.getD n11.toNat []
     chk (decide (0 ≤ n11) && decide (n11 < l8.length) && isRow z114 y2) <|
     let y3 := t90 (asI (nthD y2 0)) (asI (nthD y2 1)) (asI (nthD y2 2)) (asI (nthD y2 3)) (asS (nthD y2 4)) n9
     chk (okR zr90 zo90 y3) <|
     let y4 := asI (resC y3 0 0)
     let y5 := decide (y4 < (0 : Int))
     if y5 then
      q1 y4 n11 y1 y5
     else
      la55o1 t90 l8 n10 b12 q1 q2 m y4 (w64 (n11 + (1 : Int))) (.d (.b y1)) (.d (.b y5))
    else
     q2 n9 n11 y1 (keepV [] v14)
/-- laws.szSessionS -/
def ta55 (t90 : Y90) (l1 : List (List D)) (n2 : Int) : Rs :=
  let y1 := w64 (n2 - (l1.length : Int))
  let y2 := decide (y1 < (0 : Int))
  if y2 then
   some ([.one (.i .i64 (-1 : Int))], [])
  else
   la55o1 t90 l1 (0 : Int) y2
    (fun (n30 : Int) (n31 : Int) (b32 : Bool) (b33 : Bool) =>
     some ([.one (.i .i64 (-1 : Int))], []))
    (fun (n34 : Int) (n35 : Int) (b36 : Bool) (v37 : SV) =>
     some ([.one (.i .i64 n34)], [])) KK y1 (0 : Int) SV.undef SV.undef
def t55 : List (List D) → Int → Rs := ta55 t90
def zr55 : List DV := [.one (.i .i64 0)]
def zo55 : List (List D) := []
def A55 : List TA := [.one (.l), .one (.i .i64)]
def v55 (vs : List Vr) : Rs := t55 (vL vs 0) (vI vs 1)
def g55 (xs : List DV) : Bool × List DV × List (List D) := gOf zr55 zo55 (argsT A55 v55 xs)
abbrev Y55 := List (List D) → Int → Rs
/-- laws.szTenant -/
def ta22 (t53 : Y53) (t54 : Y54) (t55 : Y55) (n1 : Int) (l2 : List (List D)) (n3 : Int) (l4 : List (List D)) (l5 : List (List D)) (n6 : Int) : Rs :=
  let y1 := t53 n1 l2 n6
  chk (okR zr53 zo53 y1) <|
  let y2 := asI (resC y1 0 0)
  if decide (y2 < (0 : Int)) then
   some ([.one (.i .i64 (-1 : Int))], [])
  else
   let y3 := t54 l4 y2
   chk (okR zr54 zo54 y3) <|
   let y4 := asI (resC y3 0 0)
   if decide (y4 < (0 : Int)) then
    some ([.one (.i .i64 (-1 : Int))], [])
   else
    let y5 := t55 l5 y4
    chk (okR zr55 zo55 y5) <|
    let y6 := asI (resC y5 0 0)
    if decide (y6 < (0 : Int)) then
     some ([.one (.i .i64 (-1 : Int))], [])
    else
     some ([.one (.i .i64 y6)], [])
def t22 : Int → List (List D) → Int → List (List D) → List (List D) → Int → Rs := ta22 t53 t54 t55
def zr22 : List DV := [.one (.i .i64 0)]
def zo22 : List (List D) := []
def A22 : List TA := [.agg [.i .i64, .l, .i .i64, .l, .l], .one (.i .i64)]
def v22 (vs : List Vr) : Rs := t22 (vI vs 0) (vL vs 1) (vI vs 2) (vL vs 3) (vL vs 4) (vI vs 5)
def g22 (xs : List DV) : Bool × List DV × List (List D) := gOf zr22 zo22 (argsT A22 v22 xs)
abbrev Y22 := Int → List (List D) → Int → List (List D) → List (List D) → Int → Rs
def la26o1 (t22 : Y22) (l8 : List (List D)) (n10 : Int) (b12 : Bool) (q1 : Int → Int → Bool → Bool → Rs) (q2 : Int → Int → Bool → SV → Rs) : Nat → Int → Int → SV → SV → Rs
  | 0, _, _, _, _ => none
  | m + 1, n9, n11, v13, v14 =>
    let y1 := decide (n11 < (l8.length : Int))
    if y1 then
     let y2 := l8.getD n11.toNat []
     chk (decide (0 ≤ n11) && decide (n11 < l8.length) && isRow z43 y2) <|
     let y3 := t22 (asI (nthD y2 0)) (asL (nthD y2 1)) (asI (nthD y2 2)) (asL (nthD y2 3)) (asL (nthD y2 4)) n9
     chk (okR zr22 zo22 y3) <|
     let y4 := asI (resC y3 0 0)
     let y5 := decide (y4 < (0 : Int))
     if y5 then
      q1 y4 n11 y1 y5
     else
      la26o1 t22 l8 n10 b12 q1 q2 m y4 (w64 (n11 + (1 : Int))) (.d (.b y1)) (.d (.b y5))
    else
     q2 n9 n11 y1 (keepV [] v14)
/-- laws.szTenantS -/
def ta26 (t22 : Y22) (l1 : List (List D)) (n2 : Int) : Rs :=
  let y1 := w64 (n2 - (l1.length : Int))
  let y2 := decide (y1 < (0 : Int))
  if y2 then
   some ([.one (.i .i64 (-1 : Int))], [])
  else
   la26o1 t22 l1 (0 : Int) y2
    (fun (n30 : Int) (n31 : Int) (b32 : Bool) (b33 : Bool) =>
     some ([.one (.i .i64 (-1 : Int))], []))
    (fun (n34 : Int) (n35 : Int) (b36 : Bool) (v37 : SV) =>
     some ([.one (.i .i64 n34)], [])) KK y1 (0 : Int) SV.undef SV.undef
def t26 : List (List D) → Int → Rs := ta26 t22
def zr26 : List DV := [.one (.i .i64 0)]
def zo26 : List (List D) := []
def A26 : List TA := [.one (.l), .one (.i .i64)]
def v26 (vs : List Vr) : Rs := t26 (vL vs 0) (vI vs 1)
def g26 (xs : List DV) : Bool × List DV × List (List D) := gOf zr26 zo26 (argsT A26 v26 xs)
abbrev Y26 := List (List D) → Int → Rs
/-- laws.toDirent -/
def t145 (s1 : ByteArray) (n2 : Int) : Rs :=
  some ([.agg [.s s1, .i .i64 n2]], [])
def zr145 : List DV := [.agg [.s ⟨#[]⟩, .i .i64 0]]
def zo145 : List (List D) := []
def A145 : List TA := [.agg [.s, .i .i64]]
def v145 (vs : List Vr) : Rs := t145 (vS vs 0) (vI vs 1)
def g145 (xs : List DV) : Bool × List DV × List (List D) := gOf zr145 zo145 (argsT A145 v145 xs)
abbrev Y145 := ByteArray → Int → Rs
def la140o0 (t145 : Y145) (l5 : List (List D)) (q1 : Int → Bool → List (List D) → Rs) : Nat → Int → SV → List (List D) → Rs
  | 0, _, _, _ => none
  | m + 1, n6, v7, l8 =>
    let y1 := decide (n6 < (l5.length : Int))
    if y1 then
     let y2 := l5.getD n6.toNat []
     chk (decide (0 ≤ n6) && decide (n6 < l5.length) && isRow z160 y2) <|
     let y3 := t145 (asS (nthD y2 0)) (asI (nthD y2 1))
     chk (okR zr145 zo145 y3) <|
     chk (decide (0 ≤ n6) && decide (n6 < l8.length)) <|
     chk (decide (2 ≤ 2 ∧ (n6.toNat) < l8.length)) <|
     la140o0 t145 l5 q1 m (w64 (n6 + (1 : Int))) (.d (.b y1)) (stR l8 (n6.toNat) 0 [.s (asS (resC y3 0 0)), .i .i64 (asI (resC y3 0 1))])
    else
     q1 n6 y1 l8
/-- laws.toDirentS -/
def ta140 (t145 : Y145) (l1 : List (List D)) : Rs :=
  let y1 := (l1.length : Int)
  chk (decide (0 ≤ y1 ∧ y1 ≤ lim ∧ y1 = y1)) <|
  la140o0 t145 l1
   (fun (n16 : Int) (b17 : Bool) (l18 : List (List D)) =>
    some ([.one (.l l18)], [])) KK (0 : Int) SV.undef (List.replicate y1.toNat z129)
def t140 : List (List D) → Rs := ta140 t145
def zr140 : List DV := [.one (.l [])]
def zo140 : List (List D) := []
def A140 : List TA := [.one (.l)]
def v140 (vs : List Vr) : Rs := t140 (vL vs 0)
def g140 (xs : List DV) : Bool × List DV × List (List D) := gOf zr140 zo140 (argsT A140 v140 xs)
abbrev Y140 := List (List D) → Rs
/-- laws.toInode -/
def ta128 (t140 : Y140) (n1 : Int) (n2 : Int) (n3 : Int) (n4 : Int) (n5 : Int) (s6 : ByteArray) (l7 : List (List D)) (n8 : Int) (n9 : Int) : Rs :=
  chk (okR zr140 zo140 (t140 l7)) <|
  some ([.agg [.i .i64 n1, .i .i64 n2, .i .i64 n3, .i .i64 n4, .i .i64 n5, .s s6, .l (asL (resC (t140 l7) 0 0)), .i .i64 n8, .i .i64 n9]], [])
def t128 : Int → Int → Int → Int → Int → ByteArray → List (List D) → Int → Int → Rs := ta128 t140
def zr128 : List DV := [.agg [.i .i64 0, .i .i64 0, .i .i64 0, .i .i64 0, .i .i64 0, .s ⟨#[]⟩, .l [], .i .i64 0, .i .i64 0]]
def zo128 : List (List D) := []
def A128 : List TA := [.agg [.i .i64, .i .i64, .i .i64, .i .i64, .i .i64, .s, .l, .i .i64, .i .i64]]
def v128 (vs : List Vr) : Rs := t128 (vI vs 0) (vI vs 1) (vI vs 2) (vI vs 3) (vI vs 4) (vS vs 5) (vL vs 6) (vI vs 7) (vI vs 8)
def g128 (xs : List DV) : Bool × List DV × List (List D) := gOf zr128 zo128 (argsT A128 v128 xs)
abbrev Y128 := Int → Int → Int → Int → Int → ByteArray → List (List D) → Int → Int → Rs
def la96o0 (t128 : Y128) (l5 : List (List D)) (q1 : Int → Bool → List (List D) → Rs) : Nat → Int → SV → List (List D) → Rs
  | 0, _, _, _ => none
  | m + 1, n6, v7, l8 =>
    let y1 := decide (n6 < (l5.length : Int))
    if y1 then
     let y2 := l5.getD n6.toNat []
     chk (decide (0 ≤ n6) && decide (n6 < l5.length) && isRow z142 y2) <|
     let y3 := t128 (asI (nthD y2 0)) (asI (nthD y2 1)) (asI (nthD y2 2)) (asI (nthD y2 3)) (asI (nthD y2 4)) (asS (nthD y2 5)) (asL (nthD y2 6)) (asI (nthD y2 7)) (asI (nthD y2 8))
     chk (okR zr128 zo128 y3) <|
     chk (decide (0 ≤ n6) && decide (n6 < l8.length)) <|
     chk (decide (9 ≤ 9 ∧ (n6.toNat) < l8.length)) <|
     la96o0 t128 l5 q1 m (w64 (n6 + (1 : Int))) (.d (.b y1)) (stR l8 (n6.toNat) 0 [.i .i64 (asI (resC y3 0 0)), .i .i64 (asI (resC y3 0 1)), .i .i64 (asI (resC y3 0 2)), .i .i64 (asI (resC y3 0 3)), .i .i64 (asI (resC y3 0 4)), .s (asS (resC y3 0 5)), .l (asL (resC y3 0 6)), .i .i64 (asI (resC y3 0 7)), .i .i64 (asI (resC y3 0 8))])
    else
     q1 n6 y1 l8
/-- laws.toInodeS -/
def ta96 (t128 : Y128) (l1 : List (List D)) : Rs :=
  let y1 := (l1.length : Int)
  chk (decide (0 ≤ y1 ∧ y1 ≤ lim ∧ y1 = y1)) <|
  la96o0 t128 l1
   (fun (n16 : Int) (b17 : Bool) (l18 : List (List D)) =>
    some ([.one (.l l18)], [])) KK (0 : Int) SV.undef (List.replicate y1.toNat z64)
def t96 : List (List D) → Rs := ta96 t128
def zr96 : List DV := [.one (.l [])]
def zo96 : List (List D) := []
def A96 : List TA := [.one (.l)]
def v96 (vs : List Vr) : Rs := t96 (vL vs 0)
def g96 (xs : List DV) : Bool × List DV × List (List D) := gOf zr96 zo96 (argsT A96 v96 xs)
abbrev Y96 := List (List D) → Rs
/-- laws.toVol -/
def ta60 (t96 : Y96) (n1 : Int) (l2 : List (List D)) : Rs :=
  chk (okR zr96 zo96 (t96 l2)) <|
  some ([.agg [.i .i64 n1, .l (asL (resC (t96 l2) 0 0))]], [])
def t60 : Int → List (List D) → Rs := ta60 t96
def zr60 : List DV := [.agg [.i .i64 0, .l []]]
def zo60 : List (List D) := []
def A60 : List TA := [.agg [.i .i64, .l]]
def v60 (vs : List Vr) : Rs := t60 (vI vs 0) (vL vs 1)
def g60 (xs : List DV) : Bool × List DV × List (List D) := gOf zr60 zo60 (argsT A60 v60 xs)
abbrev Y60 := Int → List (List D) → Rs
/-- laws.toNote -/
def t97 (n1 : Int) (n2 : Int) (n3 : Int) (n4 : Int) (n5 : Int) : Rs :=
  some ([.agg [.i .i64 n1, .i .i64 n2, .i .i64 n3, .i .i64 n4, .i .i64 n5]], [])
def zr97 : List DV := [.agg [.i .i64 0, .i .i64 0, .i .i64 0, .i .i64 0, .i .i64 0]]
def zo97 : List (List D) := []
def A97 : List TA := [.agg [.i .i64, .i .i64, .i .i64, .i .i64, .i .i64]]
def v97 (vs : List Vr) : Rs := t97 (vI vs 0) (vI vs 1) (vI vs 2) (vI vs 3) (vI vs 4)
def g97 (xs : List DV) : Bool × List DV × List (List D) := gOf zr97 zo97 (argsT A97 v97 xs)
abbrev Y97 := Int → Int → Int → Int → Int → Rs
def la61o0 (t97 : Y97) (l5 : List (List D)) (q1 : Int → Bool → List (List D) → Rs) : Nat → Int → SV → List (List D) → Rs
  | 0, _, _, _ => none
  | m + 1, n6, v7, l8 =>
    let y1 := decide (n6 < (l5.length : Int))
    if y1 then
     let y2 := l5.getD n6.toNat []
     chk (decide (0 ≤ n6) && decide (n6 < l5.length) && isRow z121 y2) <|
     let y3 := t97 (asI (nthD y2 0)) (asI (nthD y2 1)) (asI (nthD y2 2)) (asI (nthD y2 3)) (asI (nthD y2 4))
     chk (okR zr97 zo97 y3) <|
     chk (decide (0 ≤ n6) && decide (n6 < l8.length)) <|
     chk (decide (5 ≤ 5 ∧ (n6.toNat) < l8.length)) <|
     la61o0 t97 l5 q1 m (w64 (n6 + (1 : Int))) (.d (.b y1)) (stR l8 (n6.toNat) 0 [.i .i64 (asI (resC y3 0 0)), .i .i64 (asI (resC y3 0 1)), .i .i64 (asI (resC y3 0 2)), .i .i64 (asI (resC y3 0 3)), .i .i64 (asI (resC y3 0 4))])
    else
     q1 n6 y1 l8
/-- laws.toNoteS -/
def ta61 (t97 : Y97) (l1 : List (List D)) : Rs :=
  let y1 := (l1.length : Int)
  chk (decide (0 ≤ y1 ∧ y1 ≤ lim ∧ y1 = y1)) <|
  la61o0 t97 l1
   (fun (n16 : Int) (b17 : Bool) (l18 : List (List D)) =>
    some ([.one (.l l18)], [])) KK (0 : Int) SV.undef (List.replicate y1.toNat z90)
def t61 : List (List D) → Rs := ta61 t97
def zr61 : List DV := [.one (.l [])]
def zo61 : List (List D) := []
def A61 : List TA := [.one (.l)]
def v61 (vs : List Vr) : Rs := t61 (vL vs 0)
def g61 (xs : List DV) : Bool × List DV × List (List D) := gOf zr61 zo61 (argsT A61 v61 xs)
abbrev Y61 := List (List D) → Rs
/-- laws.toResult -/
def t129 (n1 : Int) (s2 : ByteArray) : Rs :=
  some ([.agg [.i .i64 n1, .s s2]], [])
def zr129 : List DV := [.agg [.i .i64 0, .s ⟨#[]⟩]]
def zo129 : List (List D) := []
def A129 : List TA := [.agg [.i .i64, .s]]
def v129 (vs : List Vr) : Rs := t129 (vI vs 0) (vS vs 1)
def g129 (xs : List DV) : Bool × List DV × List (List D) := gOf zr129 zo129 (argsT A129 v129 xs)
abbrev Y129 := Int → ByteArray → Rs
/-- laws.toSession -/
def ta98 (t129 : Y129) (n1 : Int) (n2 : Int) (n3 : Int) (n4 : Int) (s5 : ByteArray) : Rs :=
  chk (okR zr129 zo129 (t129 n4 s5)) <|
  some ([.agg [.i .i64 n1, .i .i64 n2, .i .i64 n3, .i .i64 (asI (resC (t129 n4 s5) 0 0)), .s (asS (resC (t129 n4 s5) 0 1))]], [])
def t98 : Int → Int → Int → Int → ByteArray → Rs := ta98 t129
def zr98 : List DV := [.agg [.i .i64 0, .i .i64 0, .i .i64 0, .i .i64 0, .s ⟨#[]⟩]]
def zo98 : List (List D) := []
def A98 : List TA := [.agg [.i .i64, .i .i64, .i .i64, .i .i64, .s]]
def v98 (vs : List Vr) : Rs := t98 (vI vs 0) (vI vs 1) (vI vs 2) (vI vs 3) (vS vs 4)
def g98 (xs : List DV) : Bool × List DV × List (List D) := gOf zr98 zo98 (argsT A98 v98 xs)
abbrev Y98 := Int → Int → Int → Int → ByteArray → Rs
def la62o0 (t98 : Y98) (l5 : List (List D)) (q1 : Int → Bool → List (List D) → Rs) : Nat → Int → SV → List (List D) → Rs
  | 0, _, _, _ => none
  | m + 1, n6, v7, l8 =>
    let y1 := decide (n6 < (l5.length : Int))
    if y1 then
     let y2 := l5.getD n6.toNat []
     chk (decide (0 ≤ n6) && decide (n6 < l5.length) && isRow z114 y2) <|
     let y3 := t98 (asI (nthD y2 0)) (asI (nthD y2 1)) (asI (nthD y2 2)) (asI (nthD y2 3)) (asS (nthD y2 4))
     chk (okR zr98 zo98 y3) <|
     chk (decide (0 ≤ n6) && decide (n6 < l8.length)) <|
     chk (decide (5 ≤ 5 ∧ (n6.toNat) < l8.length)) <|
     la62o0 t98 l5 q1 m (w64 (n6 + (1 : Int))) (.d (.b y1)) (stR l8 (n6.toNat) 0 [.i .i64 (asI (resC y3 0 0)), .i .i64 (asI (resC y3 0 1)), .i .i64 (asI (resC y3 0 2)), .i .i64 (asI (resC y3 0 3)), .s (asS (resC y3 0 4))])
    else
     q1 n6 y1 l8
/-- laws.toSessionS -/
def ta62 (t98 : Y98) (l1 : List (List D)) : Rs :=
  let y1 := (l1.length : Int)
  chk (decide (0 ≤ y1 ∧ y1 ≤ lim ∧ y1 = y1)) <|
  la62o0 t98 l1
   (fun (n16 : Int) (b17 : Bool) (l18 : List (List D)) =>
    some ([.one (.l l18)], [])) KK (0 : Int) SV.undef (List.replicate y1.toNat z81)
def t62 : List (List D) → Rs := ta62 t98
def zr62 : List DV := [.one (.l [])]
def zo62 : List (List D) := []
def A62 : List TA := [.one (.l)]
def v62 (vs : List Vr) : Rs := t62 (vL vs 0)
def g62 (xs : List DV) : Bool × List DV × List (List D) := gOf zr62 zo62 (argsT A62 v62 xs)
abbrev Y62 := List (List D) → Rs
/-- laws.toTenant -/
def ta24 (t60 : Y60) (t61 : Y61) (t62 : Y62) (n1 : Int) (l2 : List (List D)) (n3 : Int) (l4 : List (List D)) (l5 : List (List D)) : Rs :=
  chk (okR zr60 zo60 (t60 n1 l2)) <|
  chk (okR zr61 zo61 (t61 l4)) <|
  chk (okR zr62 zo62 (t62 l5)) <|
  some ([.agg [.i .i64 (asI (resC (t60 n1 l2) 0 0)), .l (asL (resC (t60 n1 l2) 0 1)), .i .i64 n3, .l (asL (resC (t61 l4) 0 0)), .l (asL (resC (t62 l5) 0 0))]], [])
def t24 : Int → List (List D) → Int → List (List D) → List (List D) → Rs := ta24 t60 t61 t62
def zr24 : List DV := [.agg [.i .i64 0, .l [], .i .i64 0, .l [], .l []]]
def zo24 : List (List D) := []
def A24 : List TA := [.agg [.i .i64, .l, .i .i64, .l, .l]]
def v24 (vs : List Vr) : Rs := t24 (vI vs 0) (vL vs 1) (vI vs 2) (vL vs 3) (vL vs 4)
def g24 (xs : List DV) : Bool × List DV × List (List D) := gOf zr24 zo24 (argsT A24 v24 xs)
abbrev Y24 := Int → List (List D) → Int → List (List D) → List (List D) → Rs
def la28o0 (t24 : Y24) (l5 : List (List D)) (q1 : Int → Bool → List (List D) → Rs) : Nat → Int → SV → List (List D) → Rs
  | 0, _, _, _ => none
  | m + 1, n6, v7, l8 =>
    let y1 := decide (n6 < (l5.length : Int))
    if y1 then
     let y2 := l5.getD n6.toNat []
     chk (decide (0 ≤ n6) && decide (n6 < l5.length) && isRow z43 y2) <|
     let y3 := t24 (asI (nthD y2 0)) (asL (nthD y2 1)) (asI (nthD y2 2)) (asL (nthD y2 3)) (asL (nthD y2 4))
     chk (okR zr24 zo24 y3) <|
     chk (decide (0 ≤ n6) && decide (n6 < l8.length)) <|
     chk (decide (5 ≤ 5 ∧ (n6.toNat) < l8.length)) <|
     la28o0 t24 l5 q1 m (w64 (n6 + (1 : Int))) (.d (.b y1)) (stR l8 (n6.toNat) 0 [.i .i64 (asI (resC y3 0 0)), .l (asL (resC y3 0 1)), .i .i64 (asI (resC y3 0 2)), .l (asL (resC y3 0 3)), .l (asL (resC y3 0 4))])
    else
     q1 n6 y1 l8
/-- laws.toTenantS -/
def ta28 (t24 : Y24) (l1 : List (List D)) : Rs :=
  let y1 := (l1.length : Int)
  chk (decide (0 ≤ y1 ∧ y1 ≤ lim ∧ y1 = y1)) <|
  la28o0 t24 l1
   (fun (n16 : Int) (b17 : Bool) (l18 : List (List D)) =>
    some ([.one (.l l18)], [])) KK (0 : Int) SV.undef (List.replicate y1.toNat z28)
def t28 : List (List D) → Rs := ta28 t24
def zr28 : List DV := [.one (.l [])]
def zo28 : List (List D) := []
def A28 : List TA := [.one (.l)]
def v28 (vs : List Vr) : Rs := t28 (vL vs 0)
def g28 (xs : List DV) : Bool × List DV × List (List D) := gOf zr28 zo28 (argsT A28 v28 xs)
abbrev Y28 := List (List D) → Rs
/-- spec.l1In -/
def t57 (n1 : Int) (n2 : Int) (n3 : Int) : Rs :=
  some ([.one (.b ((decide (n1 ≥ n2)) && (decide (n1 ≤ n3))))], [])
def zr57 : List DV := [.one (.b false)]
def zo57 : List (List D) := []
def A57 : List TA := [.one (.i .i64), .one (.i .i64), .one (.i .i64)]
def v57 (vs : List Vr) : Rs := t57 (vI vs 0) (vI vs 1) (vI vs 2)
def g57 (xs : List DV) : Bool × List DV × List (List D) := gOf zr57 zo57 (argsT A57 v57 xs)
abbrev Y57 := Int → Int → Int → Rs
/-- spec.l2Byte -/
def t139 (n1 : Int) : Rs :=
  some ([.one (.b ((((((decide (n1 ≥ (97 : Int))) && (decide (n1 ≤ (122 : Int)))) || ((decide (n1 ≥ (48 : Int))) && (decide (n1 ≤ (57 : Int))))) || (n1 == (46 : Int))) || (n1 == (95 : Int))) || (n1 == (45 : Int))))], [])
def zr139 : List DV := [.one (.b false)]
def zo139 : List (List D) := []
def A139 : List TA := [.one (.i .u8)]
def v139 (vs : List Vr) : Rs := t139 (vI vs 0)
def g139 (xs : List DV) : Bool × List DV × List (List D) := gOf zr139 zo139 (argsT A139 v139 xs)
abbrev Y139 := Int → Rs
def la124o1 (t57 : Y57) (t139 : Y139) (s6 : ByteArray) (b7 : Bool) (b9 : Bool) (q1 : Int → Bool → Bool → Rs) (q2 : Int → Bool → SV → Rs) : Nat → Int → SV → SV → Rs
  | 0, _, _, _ => none
  | m + 1, n8, v10, v11 =>
    let y1 := decide (n8 < (s6.size : Int))
    if y1 then
     chk (decide (0 ≤ n8 ∧ n8 < s6.size)) <|
     let y2 := ((s6.get! n8.toNat).toNat) != (47 : Int)
     chk ((decide (0 ≤ n8 ∧ n8 < s6.size)) || !y2) <|
     let y3 := t139 ((s6.get! n8.toNat).toNat)
     chk ((okR zr139 zo139 y3) || !y2) <|
     let y4 := y2 && (!(asB (resC y3 0 0)))
     if y4 then
      q1 n8 y1 y4
     else
      la124o1 t57 t139 s6 b7 b9 q1 q2 m (w64 (n8 + (1 : Int))) (.d (.b y1)) (.d (.b y4))
    else
     q2 n8 y1 (keepV [] v11)
/-- spec.l4Target -/
def ta124 (t57 : Y57) (t139 : Y139) (s1 : ByteArray) : Rs :=
  let y1 := t57 (s1.size : Int) (1 : Int) (60 : Int)
  chk (okR zr57 zo57 y1) <|
  let y2 := !(asB (resC y1 0 0))
  if y2 then
   some ([.one (.b false)], [])
  else
   la124o1 t57 t139 s1 false y2
    (fun (n24 : Int) (b25 : Bool) (b26 : Bool) =>
     some ([.one (.b false)], []))
    (fun (n27 : Int) (b28 : Bool) (v29 : SV) =>
     some ([.one (.b true)], [])) KK (0 : Int) SV.undef SV.undef
def t124 : ByteArray → Rs := ta124 t57 t139
def zr124 : List DV := [.one (.b false)]
def zo124 : List (List D) := []
def A124 : List TA := [.one (.s)]
def v124 (vs : List Vr) : Rs := t124 (vS vs 0)
def g124 (xs : List DV) : Bool × List DV × List (List D) := gOf zr124 zo124 (argsT A124 v124 xs)
abbrev Y124 := ByteArray → Rs
def la125o1 (t57 : Y57) (t139 : Y139) (s6 : ByteArray) (b7 : Bool) (b9 : Bool) (q1 : Int → Bool → Bool → Rs) (q2 : Int → Bool → SV → Rs) : Nat → Int → SV → SV → Rs
  | 0, _, _, _ => none
  | m + 1, n8, v10, v11 =>
    let y1 := decide (n8 < (s6.size : Int))
    if y1 then
     chk (decide (0 ≤ n8 ∧ n8 < s6.size)) <|
     let y2 := t139 ((s6.get! n8.toNat).toNat)
     chk (okR zr139 zo139 y2) <|
     let y3 := !(asB (resC y2 0 0))
     if y3 then
      q1 n8 y1 y3
     else
      la125o1 t57 t139 s6 b7 b9 q1 q2 m (w64 (n8 + (1 : Int))) (.d (.b y1)) (.d (.b y3))
    else
     q2 n8 y1 (keepV [] v11)
/-- spec.NameOk -/
def ta125 (t57 : Y57) (t139 : Y139) (s1 : ByteArray) : Rs :=
  let y1 := t57 (s1.size : Int) (1 : Int) (8 : Int)
  chk (okR zr57 zo57 y1) <|
  let y2 := ((!(asB (resC y1 0 0))) || (s1.toList == (⟨#[46]⟩ : ByteArray).toList)) || (s1.toList == (⟨#[46, 46]⟩ : ByteArray).toList)
  if y2 then
   some ([.one (.b false)], [])
  else
   la125o1 t57 t139 s1 false y2
    (fun (n24 : Int) (b25 : Bool) (b26 : Bool) =>
     some ([.one (.b false)], []))
    (fun (n27 : Int) (b28 : Bool) (v29 : SV) =>
     some ([.one (.b true)], [])) KK (0 : Int) SV.undef SV.undef
def t125 : ByteArray → Rs := ta125 t57 t139
def zr125 : List DV := [.one (.b false)]
def zo125 : List (List D) := []
def A125 : List TA := [.one (.s)]
def v125 (vs : List Vr) : Rs := t125 (vS vs 0)
def g125 (xs : List DV) : Bool × List DV × List (List D) := gOf zr125 zo125 (argsT A125 v125 xs)
abbrev Y125 := ByteArray → Rs
def l126o0 (n11 : Int) (l12 : List (List D)) (n13 : Int) (n14 : Int) (n18 : Int) (l19 : List (List D)) (q1 : Int → Bool → Bool → Rs) (q2 : Int → Bool → SV → Rs) : Nat → Int → SV → SV → Rs
  | 0, _, _, _ => none
  | m + 1, n15, v16, v17 =>
    let y1 := decide (n15 < (l19.length : Int))
    if y1 then
     let y2 := l19.getD n15.toNat []
     chk (decide (0 ≤ n15) && decide (n15 < l19.length) && isRow z64 y2) <|
     let y3 := (asI (nthD y2 0)) == n13
     if y3 then
      q1 n15 y1 y3
     else
      l126o0 n11 l12 n13 n14 n18 l19 q1 q2 m (w64 (n15 + (1 : Int))) (.d (.b y1)) (.d (.b y3))
    else
     q2 n15 y1 (keepV [128] v17)
/-- spec.l4At -/
def t126 (n1 : Int) (l2 : List (List D)) (n3 : Int) : Rs :=
  l126o0 n1 l2 n3 (0 : Int) n1 l2
   (fun (n35 : Int) (b36 : Bool) (b37 : Bool) =>
    some ([.one (.i .i64 n35)], []))
   (fun (n38 : Int) (b39 : Bool) (v40 : SV) =>
    some ([.one (.i .i64 (-1 : Int))], [])) KK (0 : Int) SV.undef SV.undef
def zr126 : List DV := [.one (.i .i64 0)]
def zo126 : List (List D) := []
def A126 : List TA := [.agg [.i .i64, .l], .one (.i .i64)]
def v126 (vs : List Vr) : Rs := t126 (vI vs 0) (vL vs 1) (vI vs 2)
def g126 (xs : List DV) : Bool × List DV × List (List D) := gOf zr126 zo126 (argsT A126 v126 xs)
abbrev Y126 := Int → List (List D) → Int → Rs
def la91o5 (t57 : Y57) (t124 : Y124) (t125 : Y125) (t126 : Y126) (n43 : Int) (l44 : List (List D)) (n45 : Int) (n46 : Int) (n47 : Int) (n48 : Int) (n49 : Int) (s50 : ByteArray) (l51 : List (List D)) (n52 : Int) (n53 : Int) (b54 : Bool) (b55 : Bool) (b57 : Bool) (n58 : Int) (b59 : Bool) (b60 : Bool) (b61 : Bool) (b62 : Bool) (n65 : Int) (l66 : List (List D)) (n67 : Int) (n68 : Int) (n69 : Int) (n70 : Int) (n71 : Int) (s72 : ByteArray) (l73 : List (List D)) (n74 : Int) (n75 : Int) (q1 : Int → Bool → Bool → ByteArray → Int → Rs) (q2 : Int → Bool → SV → Rs) : Nat → Int → SV → SV → Rs
  | 0, _, _, _ => none
  | m + 1, n56, v63, v64 =>
    let y1 := decide (n56 < (l73.length : Int))
    if y1 then
     let y2 := l73.getD n56.toNat []
     chk (decide (0 ≤ n56) && decide (n56 < l73.length) && isRow z129 y2) <|
     let y3 := asS (nthD y2 0)
     let y4 := t125 y3
     chk (okR zr125 zo125 y4) <|
     let y5 := w64 (n56 - (1 : Int))
     let y6 := l73.getD y5.toNat []
     let y7 := !(asB (resC y4 0 0))
     let y8 := decide (n56 > (0 : Int))
     chk ((decide (0 ≤ y5) && decide (y5 < l73.length) && isRow z129 y6) || !((!y7) && y8)) <|
     let y9 := asI (nthD y2 1)
     let y10 := t126 n65 l66 y9
     let y11 := (y7 || (y8 && (!(Op.bytesLess (asS (nthD y6 0)).toList y3.toList)))) || (y9 == (1 : Int))
     chk ((okR zr126 zo126 y10) || !(!y11)) <|
     let y12 := y11 || (decide ((asI (resC y10 0 0)) < (0 : Int)))
     if y12 then
      q1 n56 y1 y12 y3 y9
     else
      la91o5 t57 t124 t125 t126 n43 l44 n45 n46 n47 n48 n49 s50 l51 n52 n53 b54 b55 b57 n58 b59 b60 b61 b62 n65 l66 n67 n68 n69 n70 n71 s72 l73 n74 n75 q1 q2 m (w64 (n56 + (1 : Int))) (.d (.b y1)) (.d (.b y12))
    else
     q2 n56 y1 (keepV [128, 192] v64)
/-- spec.l4InodeOk -/
def ta91 (t57 : Y57) (t124 : Y124) (t125 : Y125) (t126 : Y126) (n1 : Int) (l2 : List (List D)) (n3 : Int) (n4 : Int) (n5 : Int) (n6 : Int) (n7 : Int) (s8 : ByteArray) (l9 : List (List D)) (n10 : Int) (n11 : Int) : Rs :=
  let y1 := t57 n5 (0 : Int) (2047 : Int)
  chk (okR zr57 zo57 y1) <|
  let y2 := t57 n6 (0 : Int) (1000 : Int)
  let y3 := !(asB (resC y1 0 0))
  chk ((okR zr57 zo57 y2) || !(!y3)) <|
  let y4 := t57 n7 (0 : Int) (1000 : Int)
  let y5 := y3 || (!(asB (resC y2 0 0)))
  chk ((okR zr57 zo57 y4) || !(!y5)) <|
  let y6 := y5 || (!(asB (resC y4 0 0)))
  if y6 then
   some ([.one (.b false)], [])
  else
   let y7 := n4 == (1 : Int)
   if y7 then
    let y8 := (((l9.length : Int) == (0 : Int)) && (n10 == (0 : Int))) && (n11 == (0 : Int))
    some ([.one (.b (y8 && (decide ((s8.size : Int) ≤ (64 : Int)))))], [])
   else
    let y9 := n4 == (3 : Int)
    if y9 then
     let y10 := (((l9.length : Int) == (0 : Int)) && (n10 == (0 : Int))) && (n11 == (0 : Int))
     chk ((okR zr124 zo124 (t124 s8)) || !y10) <|
     some ([.one (.b ((y10 && (asB (resC (t124 s8) 0 0))) && (n5 == (511 : Int))))], [])
    else
     let y11 := n4 == (2 : Int)
     if y11 then
      let y12 := t57 n10 (0 : Int) (400 : Int)
      let y13 := (!(s8.toList == (⟨#[]⟩ : ByteArray).toList)) || (decide ((l9.length : Int) > (12 : Int)))
      chk ((okR zr57 zo57 y12) || !(!y13)) <|
      let y14 := t57 n11 (0 : Int) (24 : Int)
      let y15 := y13 || (!(asB (resC y12 0 0)))
      chk ((okR zr57 zo57 y14) || !(!y15)) <|
      let y16 := y15 || (!(asB (resC y14 0 0)))
      if y16 then
       some ([.one (.b false)], [])
      else
       let y17 := (((l9.length : Int) == (0 : Int)) && (n10 == (0 : Int))) && (n11 == (0 : Int))
       la91o5 t57 t124 t125 t126 n1 l2 n3 n4 n5 n6 n7 s8 l9 n10 n11 false y17 y6 n4 y7 y9 y11 y16 n1 l2 n3 n4 n5 n6 n7 s8 l9 n10 n11
        (fun (n117 : Int) (b118 : Bool) (b119 : Bool) (s120 : ByteArray) (n121 : Int) =>
         some ([.one (.b false)], []))
        (fun (n122 : Int) (b123 : Bool) (v124 : SV) =>
         some ([.one (.b true)], [])) KK (0 : Int) SV.undef SV.undef
     else
      some ([.one (.b false)], [])
def t91 : Int → List (List D) → Int → Int → Int → Int → Int → ByteArray → List (List D) → Int → Int → Rs := ta91 t57 t124 t125 t126
def zr91 : List DV := [.one (.b false)]
def zo91 : List (List D) := []
def A91 : List TA := [.agg [.i .i64, .l], .agg [.i .i64, .i .i64, .i .i64, .i .i64, .i .i64, .s, .l, .i .i64, .i .i64]]
def v91 (vs : List Vr) : Rs := t91 (vI vs 0) (vL vs 1) (vI vs 2) (vI vs 3) (vI vs 4) (vI vs 5) (vI vs 6) (vS vs 7) (vL vs 8) (vI vs 9) (vI vs 10)
def g91 (xs : List DV) : Bool × List DV × List (List D) := gOf zr91 zo91 (argsT A91 v91 xs)
abbrev Y91 := Int → List (List D) → Int → Int → Int → Int → Int → ByteArray → List (List D) → Int → Int → Rs
def la92o6 (t126 : Y126) (n379 : Int) (l380 : List (List D)) (n381 : Int) (n382 : Int) (n383 : Int) (n384 : Int) (b387 : Bool) (b388 : Bool) (b389 : Bool) (b390 : Bool) (n393 : Int) (l394 : List (List D)) (q1 : Int → SV → Bool → SV → List (List D) → List (List D) → Rs) : Nat → Int → SV → SV → SV → List (List D) → List (List D) → Rs
  | 0, _, _, _, _, _, _ => none
  | m + 1, n385, v386, v391, v392, l395, l396 =>
    let y1 := l394.getD n384.toNat []
    chk (decide (0 ≤ n384) && decide (n384 < l394.length) && isRow z64 y1) <|
    let y2 := decide (n385 < ((asL (nthD y1 6)).length : Int))
    if y2 then
     let y3 := l394.getD n384.toNat []
     chk (decide (0 ≤ n384) && decide (n384 < l394.length) && isRow z64 y3) <|
     let y4 := asL (nthD y3 6)
     let y5 := y4.getD n385.toNat []
     chk (decide (0 ≤ n385) && decide (n385 < y4.length) && isRow z129 y5) <|
     let y6 := t126 n393 l394 (asI (nthD y5 1))
     chk (okR zr126 zo126 y6) <|
     let k1 := fun (l397 : List (List D)) (l398 : List (List D)) =>
      let y7 := asI (resC y6 0 0)
      let y8 := decide (y7 ≥ (0 : Int))
      la92o6 t126 n379 l380 n381 n382 n383 n384 b387 b388 b389 b390 n393 l394 q1 m (w64 (n385 + (1 : Int))) (.d (.i .i64 y7)) (.d (.b y2)) (.d (.b y8)) l397 l398
     let y9 := asI (resC y6 0 0)
     let y10 := decide (y9 ≥ (0 : Int))
     if y10 then
      chk (decide (0 ≤ y9) && decide (y9 < l395.length)) <|
      let y11 := y9.toNat
      chk (decide (1 ≤ 1 ∧ y11 < l395.length)) <|
      chk (decide (0 ≤ y9) && decide (y9 < l396.length)) <|
      let y12 := y9.toNat
      chk (decide (1 ≤ 1 ∧ y12 < l396.length)) <|
      k1 (stR l395 y11 0 [.b true]) (stR l396 y12 0 [.b true])
     else
      k1 l395 l396
    else
     q1 n385 (keepV [128, 960, 1216] v386) y2 (keepV [128, 960, 1216] v392) l395 l396
def la92o3 (t126 : Y126) (n341 : Int) (l342 : List (List D)) (n343 : Int) (n344 : Int) (n345 : Int) (b349 : Bool) (b350 : Bool) (n355 : Int) (l356 : List (List D)) (q1 : Int → SV → SV → Bool → SV → SV → SV → List (List D) → List (List D) → Rs) : Nat → Int → SV → SV → SV → SV → SV → SV → List (List D) → List (List D) → Rs
  | 0, _, _, _, _, _, _, _, _, _ => none
  | m + 1, n346, v347, v348, v351, v352, v353, v354, l357, l358 =>
    let y1 := decide (n346 < (l356.length : Int))
    if y1 then
     chk (decide (0 ≤ n346) && decide (n346 < l358.length)) <|
     let y2 := l358.getD (n346.toNat) []
     chk (decide (1 ≤ y2.length) && isF z4 0 y2) <|
     let y3 := !(asB (nthD y2 0))
     if y3 then
      la92o3 t126 n341 l342 n343 n344 n345 b349 b350 n355 l356 q1 m (w64 (n346 + (1 : Int))) (keepV [128, 960, 1216] v347) (keepV [128, 960, 1216] v348) (.d (.b y1)) (.d (.b y3)) (keepV [128, 960, 1216] v353) (keepV [128, 960, 1216] v354) l357 l358
     else
      la92o6 t126 n341 l342 n343 n344 n345 n346 b349 b350 y1 y3 n355 l356
       (fun (n423 : Int) (v424 : SV) (b425 : Bool) (v426 : SV) (l427 : List (List D)) (l428 : List (List D)) =>
        la92o3 t126 n341 l342 n343 n344 n345 b349 b350 n355 l356 q1 m (w64 (n346 + (1 : Int))) (.d (.i .i64 n423)) (keepV [128, 960, 1216] v424) (.d (.b y1)) (.d (.b y3)) (.d (.b b425)) (keepV [128, 960, 1216] v426) l427 l428) KK (0 : Int) v348 v353 v354 l357 l358
    else
     q1 n346 (keepV [128, 960, 1216] v347) (keepV [128, 960, 1216] v348) y1 (keepV [128, 960, 1216] v352) (keepV [128, 960, 1216] v353) (keepV [128, 960, 1216] v354) l357 l358
def la92o1 (t126 : Y126) (n235 : Int) (l236 : List (List D)) (n237 : Int) (n238 : Int) (b243 : Bool) (n249 : Int) (l250 : List (List D)) (q1 : Int → SV → SV → SV → Bool → SV → SV → SV → SV → List (List D) → List (List D) → Rs) : Nat → Int → SV → SV → SV → SV → SV → SV → SV → SV → List (List D) → List (List D) → Rs
  | 0, _, _, _, _, _, _, _, _, _, _, _ => none
  | m + 1, n239, v240, v241, v242, v244, v245, v246, v247, v248, l251, l252 =>
    let y1 := decide (n239 < (l250.length : Int))
    if y1 then
     la92o3 t126 n235 l236 n237 n238 n239 b243 y1 n249 l250
      (fun (n474 : Int) (v475 : SV) (v476 : SV) (b477 : Bool) (v478 : SV) (v479 : SV) (v480 : SV) (l481 : List (List D)) (l482 : List (List D)) =>
       la92o1 t126 n235 l236 n237 n238 b243 n249 l250 q1 m (w64 (n239 + (1 : Int))) (.d (.i .i64 n474)) (keepV [128, 960, 1216] v475) (keepV [128, 960, 1216] v476) (.d (.b y1)) (.d (.b b477)) (keepV [128, 960, 1216] v478) (keepV [128, 960, 1216] v479) (keepV [128, 960, 1216] v480) l481 l482) KK (0 : Int) v241 v242 v245 v246 v247 v248 l251 l252
    else
     q1 n239 (keepV [128, 960, 1216] v240) (keepV [128, 960, 1216] v241) (keepV [128, 960, 1216] v242) y1 (keepV [128, 960, 1216] v245) (keepV [128, 960, 1216] v246) (keepV [128, 960, 1216] v247) (keepV [128, 960, 1216] v248) l251 l252
/-- spec.l4Below -/
def ta92 (t126 : Y126) (n1 : Int) (l2 : List (List D)) (n3 : Int) : Rs :=
  let y1 := (l2.length : Int)
  chk (decide (0 ≤ y1 ∧ y1 ≤ lim ∧ y1 = y1)) <|
  let y2 := (l2.length : Int)
  chk (decide (0 ≤ y2 ∧ y2 ≤ lim ∧ y2 = y2)) <|
  let y3 := t126 n1 l2 n3
  chk (okR zr126 zo126 y3) <|
  let y4 := asI (resC y3 0 0)
  let y5 := decide (y4 < (0 : Int))
  if y5 then
   let y6 := List.replicate y1.toNat z4
   some ([.one (.l y6)], [])
  else
   let y7 := List.replicate y2.toNat z4
   chk (decide (0 ≤ y4) && decide (y4 < y7.length)) <|
   let y8 := y4.toNat
   chk (decide (1 ≤ 1 ∧ y8 < y7.length)) <|
   let y9 := List.replicate y1.toNat z4
   la92o1 t126 n1 l2 n3 y4 y5 n1 l2
    (fun (n512 : Int) (v513 : SV) (v514 : SV) (v515 : SV) (b516 : Bool) (v517 : SV) (v518 : SV) (v519 : SV) (v520 : SV) (l521 : List (List D)) (l522 : List (List D)) =>
     some ([.one (.l l521)], [])) KK (0 : Int) SV.undef SV.undef SV.undef SV.undef SV.undef SV.undef SV.undef SV.undef y9 (stR y7 y8 0 [.b true])
def t92 : Int → List (List D) → Int → Rs := ta92 t126
def zr92 : List DV := [.one (.l [])]
def zo92 : List (List D) := []
def A92 : List TA := [.agg [.i .i64, .l], .one (.i .i64)]
def v92 (vs : List Vr) : Rs := t92 (vI vs 0) (vL vs 1) (vI vs 2)
def g92 (xs : List DV) : Bool × List DV × List (List D) := gOf zr92 zo92 (argsT A92 v92 xs)
abbrev Y92 := Int → List (List D) → Int → Rs
def l93o2 (n81 : Int) (l82 : List (List D)) (n83 : Int) (n84 : Int) (n86 : Int) (b88 : Bool) (n91 : Int) (l92 : List (List D)) (q1 : Int → Int → Bool → SV → Rs) : Nat → Int → Int → SV → SV → Rs
  | 0, _, _, _, _ => none
  | m + 1, n85, n87, v89, v90 =>
    let y1 := l92.getD n86.toNat []
    chk (decide (0 ≤ n86) && decide (n86 < l92.length) && isRow z64 y1) <|
    let y2 := decide (n87 < ((asL (nthD y1 6)).length : Int))
    if y2 then
     let y3 := l92.getD n86.toNat []
     chk (decide (0 ≤ n86) && decide (n86 < l92.length) && isRow z64 y3) <|
     let y4 := asL (nthD y3 6)
     let y5 := y4.getD n87.toNat []
     chk (decide (0 ≤ n87) && decide (n87 < y4.length) && isRow z129 y5) <|
     let k1 := fun (n93 : Int) =>
      let y6 := (asI (nthD y5 1)) == n83
      l93o2 n81 l82 n83 n84 n86 b88 n91 l92 q1 m n93 (w64 (n87 + (1 : Int))) (.d (.b y2)) (.d (.b y6))
     let y7 := (asI (nthD y5 1)) == n83
     if y7 then
      k1 (w64 (n85 + (1 : Int)))
     else
      k1 n85
    else
     q1 n85 n87 y2 (keepV [128] v90)
def l93o0 (n56 : Int) (l57 : List (List D)) (n58 : Int) (n59 : Int) (n66 : Int) (l67 : List (List D)) (q1 : Int → Int → SV → Bool → SV → SV → Rs) : Nat → Int → Int → SV → SV → SV → SV → Rs
  | 0, _, _, _, _, _, _ => none
  | m + 1, n60, n61, v62, v63, v64, v65 =>
    let y1 := decide (n61 < (l67.length : Int))
    if y1 then
     l93o2 n56 l57 n58 n59 n61 y1 n66 l67
      (fun (n110 : Int) (n111 : Int) (b112 : Bool) (v113 : SV) =>
       l93o0 n56 l57 n58 n59 n66 l67 q1 m n110 (w64 (n61 + (1 : Int))) (.d (.i .i64 n111)) (.d (.b y1)) (.d (.b b112)) (keepV [128] v113)) KK n60 (0 : Int) v64 v65
    else
     q1 n60 n61 (keepV [128] v62) y1 (keepV [128] v64) (keepV [128] v65)
/-- spec.l4Named -/
def t93 (n1 : Int) (l2 : List (List D)) (n3 : Int) : Rs :=
  l93o0 n1 l2 n3 (0 : Int) n1 l2
   (fun (n132 : Int) (n133 : Int) (v134 : SV) (b135 : Bool) (v136 : SV) (v137 : SV) =>
    some ([.one (.i .i64 n132)], [])) KK (0 : Int) (0 : Int) SV.undef SV.undef SV.undef SV.undef
def zr93 : List DV := [.one (.i .i64 0)]
def zo93 : List (List D) := []
def A93 : List TA := [.agg [.i .i64, .l], .one (.i .i64)]
def v93 (vs : List Vr) : Rs := t93 (vI vs 0) (vL vs 1) (vI vs 2)
def g93 (xs : List DV) : Bool × List DV × List (List D) := gOf zr93 zo93 (argsT A93 v93 xs)
abbrev Y93 := Int → List (List D) → Int → Rs
def l94o0 (n10 : Int) (l11 : List (List D)) (n12 : Int) (n16 : Int) (l17 : List (List D)) (q1 : Int → Int → Bool → Rs) : Nat → Int → Int → SV → Rs
  | 0, _, _, _ => none
  | m + 1, n13, n14, v15 =>
    let y1 := decide (n14 < (l17.length : Int))
    if y1 then
     let y2 := l17.getD n14.toNat []
     chk (decide (0 ≤ n14) && decide (n14 < l17.length) && isRow z64 y2) <|
     l94o0 n10 l11 n12 n16 l17 q1 m (w64 (n13 + ((asS (nthD y2 5)).size : Int))) (w64 (n14 + (1 : Int))) (.d (.b y1))
    else
     q1 n13 n14 y1
/-- spec.l4Bytes -/
def t94 (n1 : Int) (l2 : List (List D)) : Rs :=
  l94o0 n1 l2 (0 : Int) n1 l2
   (fun (n29 : Int) (n30 : Int) (b31 : Bool) =>
    some ([.one (.i .i64 n29)], [])) KK (0 : Int) (0 : Int) SV.undef
def zr94 : List DV := [.one (.i .i64 0)]
def zo94 : List (List D) := []
def A94 : List TA := [.agg [.i .i64, .l]]
def v94 (vs : List Vr) : Rs := t94 (vI vs 0) (vL vs 1)
def g94 (xs : List DV) : Bool × List DV × List (List D) := gOf zr94 zo94 (argsT A94 v94 xs)
abbrev Y94 := Int → List (List D) → Rs
def la127o0 (t92 : Y92) (n17 : Int) (l18 : List (List D)) (n19 : Int) (n20 : Int) (n21 : Int) (n27 : Int) (l28 : List (List D)) (l29 : List (List D)) (q1 : Int → Int → Int → Bool → SV → Rs) : Nat → Int → Int → Int → SV → SV → Rs
  | 0, _, _, _, _, _ => none
  | m + 1, n22, n23, n24, v25, v26 =>
    let y1 := decide (n24 < (l29.length : Int))
    if y1 then
     chk (decide (0 ≤ n24) && decide (n24 < l29.length)) <|
     let y2 := l29.getD (n24.toNat) []
     chk (decide (1 ≤ y2.length) && isF z4 0 y2) <|
     let k1 := fun (n30 : Int) (n31 : Int) =>
      let y3 := asB (nthD y2 0)
      la127o0 t92 n17 l18 n19 n20 n21 n27 l28 l29 q1 m n30 n31 (w64 (n24 + (1 : Int))) (.d (.b y1)) (.d (.b y3))
     let y4 := asB (nthD y2 0)
     if y4 then
      let y5 := l28.getD n24.toNat []
      chk (decide (0 ≤ n24) && decide (n24 < l28.length) && isRow z64 y5) <|
      k1 (w64 (n22 + ((asS (nthD y5 5)).size : Int))) (w64 (n23 + (1 : Int)))
     else
      k1 n22 n23
    else
     q1 n22 n23 n24 y1 (keepV [128, 768] v26)
/-- spec.l4Usage -/
def ta127 (t92 : Y92) (n1 : Int) (l2 : List (List D)) (n3 : Int) : Rs :=
  let y1 := t92 n1 l2 n3
  chk (okR zr92 zo92 y1) <|
  la127o0 t92 n1 l2 n3 (0 : Int) (0 : Int) n1 l2 (asL (resC y1 0 0))
   (fun (n50 : Int) (n51 : Int) (n52 : Int) (b53 : Bool) (v54 : SV) =>
    some ([.one (.i .i64 n50), .one (.i .i64 n51)], [])) KK (0 : Int) (0 : Int) (0 : Int) SV.undef SV.undef
def t127 : Int → List (List D) → Int → Rs := ta127 t92
def zr127 : List DV := [.one (.i .i64 0), .one (.i .i64 0)]
def zo127 : List (List D) := []
def A127 : List TA := [.agg [.i .i64, .l], .one (.i .i64)]
def v127 (vs : List Vr) : Rs := t127 (vI vs 0) (vL vs 1) (vI vs 2)
def g127 (xs : List DV) : Bool × List DV × List (List D) := gOf zr127 zo127 (argsT A127 v127 xs)
abbrev Y127 := Int → List (List D) → Int → Rs
def la95o0 (t127 : Y127) (n9 : Int) (l10 : List (List D)) (b11 : Bool) (n18 : Int) (l19 : List (List D)) (q1 : Int → Int → Int → Bool → Bool → Bool → Int → Int → Int → Int → Int → ByteArray → List (List D) → Int → Int → Rs) (q2 : Int → SV → SV → Bool → SV → SV → Rs) : Nat → Int → SV → SV → SV → SV → SV → Rs
  | 0, _, _, _, _, _, _ => none
  | m + 1, n12, v13, v14, v15, v16, v17 =>
    let y1 := decide (n12 < (l19.length : Int))
    if y1 then
     let y2 := l19.getD n12.toNat []
     chk (decide (0 ≤ n12) && decide (n12 < l19.length) && isRow z64 y2) <|
     let y3 := asI (nthD y2 1)
     let y4 := asI (nthD y2 7)
     let y5 := asI (nthD y2 8)
     let y6 := (y3 != (2 : Int)) || ((y4 == (0 : Int)) && (y5 == (0 : Int)))
     if y6 then
      la95o0 t127 n9 l10 b11 n18 l19 q1 q2 m (w64 (n12 + (1 : Int))) (keepV [64] v13) (keepV [64] v14) (.d (.b y1)) (.d (.b y6)) (keepV [64] v17)
     else
      let y7 := asI (nthD y2 0)
      let y8 := t127 n18 l19 y7
      chk (okR zr127 zo127 y8) <|
      let y9 := asI (resC y8 0 0)
      let y10 := asI (resC y8 1 0)
      let y11 := ((decide (y4 > (0 : Int))) && (decide (y9 > y4))) || ((decide (y5 > (0 : Int))) && (decide (y10 > y5)))
      if y11 then
       q1 n12 y9 y10 y1 y6 y11 y7 y3 (asI (nthD y2 2)) (asI (nthD y2 3)) (asI (nthD y2 4)) (asS (nthD y2 5)) (asL (nthD y2 6)) y4 y5
      else
       la95o0 t127 n9 l10 b11 n18 l19 q1 q2 m (w64 (n12 + (1 : Int))) (.d (.i .i64 y9)) (.d (.i .i64 y10)) (.d (.b y1)) (.d (.b y6)) (.d (.b y11))
    else
     q2 n12 (keepV [64] v13) (keepV [64] v14) y1 (keepV [64] v16) (keepV [64] v17)
/-- spec.l4Over -/
def ta95 (t127 : Y127) (n1 : Int) (l2 : List (List D)) : Rs :=
  la95o0 t127 n1 l2 false n1 l2
   (fun (n63 : Int) (n64 : Int) (n65 : Int) (b66 : Bool) (b67 : Bool) (b68 : Bool) (n69 : Int) (n70 : Int) (n71 : Int) (n72 : Int) (n73 : Int) (s74 : ByteArray) (l75 : List (List D)) (n76 : Int) (n77 : Int) =>
    some ([.one (.b true)], []))
   (fun (n78 : Int) (v79 : SV) (v80 : SV) (b81 : Bool) (v82 : SV) (v83 : SV) =>
    some ([.one (.b false)], [])) KK (0 : Int) SV.undef SV.undef SV.undef SV.undef SV.undef
def t95 : Int → List (List D) → Rs := ta95 t127
def zr95 : List DV := [.one (.b false)]
def zo95 : List (List D) := []
def A95 : List TA := [.agg [.i .i64, .l]]
def v95 (vs : List Vr) : Rs := t95 (vI vs 0) (vL vs 1)
def g95 (xs : List DV) : Bool × List DV × List (List D) := gOf zr95 zo95 (argsT A95 v95 xs)
abbrev Y95 := Int → List (List D) → Rs
def la56o4 (t57 : Y57) (t91 : Y91) (t92 : Y92) (t93 : Y93) (t94 : Y94) (t95 : Y95) (n69 : Int) (l70 : List (List D)) (b71 : Bool) (n72 : Int) (b74 : Bool) (b75 : Bool) (n79 : Int) (l80 : List (List D)) (l81 : List (List D)) (q1 : Int → SV → Bool → Bool → Rs) (q2 : Int → SV → Bool → SV → Rs) : Nat → Int → SV → SV → SV → Rs
  | 0, _, _, _, _ => none
  | m + 1, n73, v76, v77, v78 =>
    let y1 := decide (n73 < (l80.length : Int))
    if y1 then
     chk (decide (0 ≤ n73) && decide (n73 < l81.length)) <|
     let y2 := l81.getD (n73.toNat) []
     chk (decide (1 ≤ y2.length) && isF z4 0 y2) <|
     let y3 := l80.getD n73.toNat []
     let y4 := !(asB (nthD y2 0))
     chk ((decide (0 ≤ n73) && decide (n73 < l80.length) && isRow z64 y3) || !(!y4)) <|
     let y5 := l80.getD n73.toNat []
     let y6 := !y4
     let y7 := (asI (nthD y3 1)) == (2 : Int)
     chk ((decide (0 ≤ n73) && decide (n73 < l80.length) && isRow z64 y5) || !(y6 && y7)) <|
     let y8 := t93 n79 l80 (asI (nthD y5 0))
     chk ((okR zr93 zo93 y8) || !(y6 && y7)) <|
     let y9 := y4 || (y7 && ((asI (resC y8 0 0)) != (1 : Int)))
     if y9 then
      q1 n73 v76 y1 y9
     else
      la56o4 t57 t91 t92 t93 t94 t95 n69 l70 b71 n72 b74 b75 n79 l80 l81 q1 q2 m (w64 (n73 + (1 : Int))) (keepV [64, 4864] v76) (.d (.b y1)) (.d (.b y9))
    else
     q2 n73 (keepV [64, 4864] v76) y1 (keepV [64, 4864] v78)
def la56o1 (t57 : Y57) (t91 : Y91) (t92 : Y92) (t93 : Y93) (t94 : Y94) (t95 : Y95) (n10 : Int) (l11 : List (List D)) (b12 : Bool) (b14 : Bool) (n17 : Int) (l18 : List (List D)) (q1 : Int → Bool → Bool → Int → Int → Int → Int → Int → ByteArray → List (List D) → Int → Int → Rs) (q2 : Int → Bool → SV → Rs) : Nat → Int → SV → SV → Rs
  | 0, _, _, _ => none
  | m + 1, n13, v15, v16 =>
    let y1 := decide (n13 < (l18.length : Int))
    if y1 then
     let y2 := l18.getD n13.toNat []
     chk (decide (0 ≤ n13) && decide (n13 < l18.length) && isRow z64 y2) <|
     let y3 := asI (nthD y2 0)
     let y4 := t57 y3 (1 : Int) (w64 (n17 - (1 : Int)))
     chk (okR zr57 zo57 y4) <|
     let y5 := w64 (n13 - (1 : Int))
     let y6 := l18.getD y5.toNat []
     let y7 := !(asB (resC y4 0 0))
     let y8 := decide (n13 > (0 : Int))
     chk ((decide (0 ≤ y5) && decide (y5 < l18.length) && isRow z64 y6) || !((!y7) && y8)) <|
     let y9 := asI (nthD y2 1)
     let y10 := asI (nthD y2 2)
     let y11 := asI (nthD y2 3)
     let y12 := asI (nthD y2 4)
     let y13 := asS (nthD y2 5)
     let y14 := asL (nthD y2 6)
     let y15 := asI (nthD y2 7)
     let y16 := asI (nthD y2 8)
     let y17 := t91 n17 l18 y3 y9 y10 y11 y12 y13 y14 y15 y16
     let y18 := y7 || (y8 && (decide ((asI (nthD y6 0)) ≥ y3)))
     chk ((okR zr91 zo91 y17) || !(!y18)) <|
     let y19 := y18 || (!(asB (resC y17 0 0)))
     if y19 then
      q1 n13 y1 y19 y3 y9 y10 y11 y12 y13 y14 y15 y16
     else
      la56o1 t57 t91 t92 t93 t94 t95 n10 l11 b12 b14 n17 l18 q1 q2 m (w64 (n13 + (1 : Int))) (.d (.b y1)) (.d (.b y19))
    else
     q2 n13 y1 (keepV [64] v16)
/-- spec.VolOk -/
def ta56 (t57 : Y57) (t91 : Y91) (t92 : Y92) (t93 : Y93) (t94 : Y94) (t95 : Y95) (n1 : Int) (l2 : List (List D)) : Rs :=
  let y1 := t57 n1 (2 : Int) (100000 : Int)
  chk (okR zr57 zo57 y1) <|
  let y2 := t57 (l2.length : Int) (1 : Int) (24 : Int)
  let y3 := !(asB (resC y1 0 0))
  chk ((okR zr57 zo57 y2) || !(!y3)) <|
  let y4 := l2.getD (0 : Int).toNat []
  let y5 := y3 || (!(asB (resC y2 0 0)))
  chk ((decide (0 ≤ (0 : Int)) && decide ((0 : Int) < l2.length) && isRow z64 y4) || !(!y5)) <|
  let y6 := l2.getD (0 : Int).toNat []
  let y7 := y5 || ((asI (nthD y4 0)) != (1 : Int))
  chk ((decide (0 ≤ (0 : Int)) && decide ((0 : Int) < l2.length) && isRow z64 y6) || !(!y7)) <|
  let y8 := y7 || ((asI (nthD y6 1)) != (2 : Int))
  if y8 then
   some ([.one (.b false)], [])
  else
   la56o1 t57 t91 t92 t93 t94 t95 n1 l2 false y8 n1 l2
    (fun (n43 : Int) (b44 : Bool) (b45 : Bool) (n46 : Int) (n47 : Int) (n48 : Int) (n49 : Int) (n50 : Int) (s51 : ByteArray) (l52 : List (List D)) (n53 : Int) (n54 : Int) =>
     some ([.one (.b false)], []))
    (fun (n55 : Int) (b56 : Bool) (v57 : SV) =>
     let y9 := t92 n1 l2 (1 : Int)
     chk (okR zr92 zo92 y9) <|
     la56o4 t57 t91 t92 t93 t94 t95 n1 l2 false n55 y8 b56 n1 l2 (asL (resC y9 0 0))
      (fun (n103 : Int) (v104 : SV) (b105 : Bool) (b106 : Bool) =>
       some ([.one (.b false)], []))
      (fun (n107 : Int) (v108 : SV) (b109 : Bool) (v110 : SV) =>
       chk (okR zr94 zo94 (t94 n1 l2)) <|
       let y10 := decide ((asI (resC (t94 n1 l2) 0 0)) ≤ (400 : Int))
       chk ((okR zr95 zo95 (t95 n1 l2)) || !y10) <|
       some ([.one (.b (y10 && (!(asB (resC (t95 n1 l2) 0 0)))))], [])) KK (1 : Int) v57 SV.undef SV.undef) KK (0 : Int) SV.undef SV.undef
def t56 : Int → List (List D) → Rs := ta56 t57 t91 t92 t93 t94 t95
def zr56 : List DV := [.one (.b false)]
def zo56 : List (List D) := []
def A56 : List TA := [.agg [.i .i64, .l]]
def v56 (vs : List Vr) : Rs := t56 (vI vs 0) (vL vs 1)
def g56 (xs : List DV) : Bool × List DV × List (List D) := gOf zr56 zo56 (argsT A56 v56 xs)
abbrev Y56 := Int → List (List D) → Rs
def la58o1 (t57 : Y57) (l6 : List (List D)) (b7 : Bool) (b9 : Bool) (q1 : Int → Bool → Bool → Int → Int → Int → Int → Int → Rs) (q2 : Int → Bool → SV → Rs) : Nat → Int → SV → SV → Rs
  | 0, _, _, _ => none
  | m + 1, n8, v10, v11 =>
    let y1 := decide (n8 < (l6.length : Int))
    if y1 then
     let y2 := l6.getD n8.toNat []
     chk (decide (0 ≤ n8) && decide (n8 < l6.length) && isRow z90 y2) <|
     let y3 := asI (nthD y2 0)
     let y4 := t57 y3 (1 : Int) (100000 : Int)
     chk (okR zr57 zo57 y4) <|
     let y5 := w64 (n8 - (1 : Int))
     let y6 := l6.getD y5.toNat []
     let y7 := !(asB (resC y4 0 0))
     let y8 := decide (n8 > (0 : Int))
     chk ((decide (0 ≤ y5) && decide (y5 < l6.length) && isRow z90 y6) || !((!y7) && y8)) <|
     let y9 := asI (nthD y2 1)
     let y10 := t57 y9 (1 : Int) (3 : Int)
     let y11 := y7 || (y8 && (decide ((asI (nthD y6 0)) > y3)))
     chk ((okR zr57 zo57 y10) || !(!y11)) <|
     let y12 := asI (nthD y2 2)
     let y13 := t57 y12 (1 : Int) (1000000 : Int)
     let y14 := y11 || (!(asB (resC y10 0 0)))
     chk ((okR zr57 zo57 y13) || !(!y14)) <|
     let y15 := asI (nthD y2 3)
     let y16 := t57 y15 (1 : Int) (22 : Int)
     let y17 := y14 || (!(asB (resC y13 0 0)))
     chk ((okR zr57 zo57 y16) || !(!y17)) <|
     let y18 := asI (nthD y2 4)
     let y19 := t57 y18 (0 : Int) (200 : Int)
     let y20 := y17 || (!(asB (resC y16 0 0)))
     chk ((okR zr57 zo57 y19) || !(!y20)) <|
     let y21 := y20 || (!(asB (resC y19 0 0)))
     if y21 then
      q1 n8 y1 y21 y3 y9 y12 y15 y18
     else
      la58o1 t57 l6 b7 b9 q1 q2 m (w64 (n8 + (1 : Int))) (.d (.b y1)) (.d (.b y21))
    else
     q2 n8 y1 (keepV [] v11)
/-- spec.AuditOk -/
def ta58 (t57 : Y57) (l1 : List (List D)) : Rs :=
  let y1 := decide ((l1.length : Int) > (20 : Int))
  if y1 then
   some ([.one (.b false)], [])
  else
   la58o1 t57 l1 false y1
    (fun (n29 : Int) (b30 : Bool) (b31 : Bool) (n32 : Int) (n33 : Int) (n34 : Int) (n35 : Int) (n36 : Int) =>
     some ([.one (.b false)], []))
    (fun (n37 : Int) (b38 : Bool) (v39 : SV) =>
     some ([.one (.b true)], [])) KK (0 : Int) SV.undef SV.undef
def t58 : List (List D) → Rs := ta58 t57
def zr58 : List DV := [.one (.b false)]
def zo58 : List (List D) := []
def A58 : List TA := [.one (.l)]
def v58 (vs : List Vr) : Rs := t58 (vL vs 0)
def g58 (xs : List DV) : Bool × List DV × List (List D) := gOf zr58 zo58 (argsT A58 v58 xs)
abbrev Y58 := List (List D) → Rs
/-- spec.ResultOk -/
def ta59 (t57 : Y57) (n1 : Int) (s2 : ByteArray) : Rs :=
  let y1 := t57 n1 (0 : Int) (200 : Int)
  chk (okR zr57 zo57 y1) <|
  some ([.one (.b ((asB (resC y1 0 0)) && (decide ((s2.size : Int) ≤ (400 : Int)))))], [])
def t59 : Int → ByteArray → Rs := ta59 t57
def zr59 : List DV := [.one (.b false)]
def zo59 : List (List D) := []
def A59 : List TA := [.agg [.i .i64, .s]]
def v59 (vs : List Vr) : Rs := t59 (vI vs 0) (vS vs 1)
def g59 (xs : List DV) : Bool × List DV × List (List D) := gOf zr59 zo59 (argsT A59 v59 xs)
abbrev Y59 := Int → ByteArray → Rs
def la23o1 (t56 : Y56) (t57 : Y57) (t58 : Y58) (t59 : Y59) (n19 : Int) (l20 : List (List D)) (n21 : Int) (l22 : List (List D)) (l23 : List (List D)) (b24 : Bool) (b26 : Bool) (n29 : Int) (l30 : List (List D)) (n31 : Int) (l32 : List (List D)) (l33 : List (List D)) (q1 : Int → Bool → Bool → Int → Int → Int → Int → ByteArray → Rs) (q2 : Int → Bool → SV → Rs) : Nat → Int → SV → SV → Rs
  | 0, _, _, _ => none
  | m + 1, n25, v27, v28 =>
    let y1 := decide (n25 < (l33.length : Int))
    if y1 then
     let y2 := l33.getD n25.toNat []
     chk (decide (0 ≤ n25) && decide (n25 < l33.length) && isRow z81 y2) <|
     let y3 := asI (nthD y2 0)
     let y4 := t57 y3 (1 : Int) (3 : Int)
     chk (okR zr57 zo57 y4) <|
     let y5 := w64 (n25 - (1 : Int))
     let y6 := l33.getD y5.toNat []
     let y7 := !(asB (resC y4 0 0))
     let y8 := decide (n25 > (0 : Int))
     chk ((decide (0 ≤ y5) && decide (y5 < l33.length) && isRow z81 y6) || !((!y7) && y8)) <|
     let y9 := asI (nthD y2 1)
     let y10 := t57 y9 (1 : Int) (1000000 : Int)
     let y11 := y7 || (y8 && (decide ((asI (nthD y6 0)) ≥ y3)))
     chk ((okR zr57 zo57 y10) || !(!y11)) <|
     let y12 := asI (nthD y2 2)
     let y13 := t57 y12 (1 : Int) (100000 : Int)
     let y14 := y11 || (!(asB (resC y10 0 0)))
     chk ((okR zr57 zo57 y13) || !(!y14)) <|
     let y15 := asI (nthD y2 3)
     let y16 := asS (nthD y2 4)
     let y17 := t59 y15 y16
     let y18 := y14 || (!(asB (resC y13 0 0)))
     chk ((okR zr59 zo59 y17) || !(!y18)) <|
     let y19 := y18 || (!(asB (resC y17 0 0)))
     if y19 then
      q1 n25 y1 y19 y3 y9 y12 y15 y16
     else
      la23o1 t56 t57 t58 t59 n19 l20 n21 l22 l23 b24 b26 n29 l30 n31 l32 l33 q1 q2 m (w64 (n25 + (1 : Int))) (.d (.b y1)) (.d (.b y19))
    else
     q2 n25 y1 (keepV [64] v28)
/-- spec.TenantOk -/
def ta23 (t56 : Y56) (t57 : Y57) (t58 : Y58) (t59 : Y59) (n1 : Int) (l2 : List (List D)) (n3 : Int) (l4 : List (List D)) (l5 : List (List D)) : Rs :=
  chk (okR zr56 zo56 (t56 n1 l2)) <|
  let y1 := t57 n3 (0 : Int) (30 : Int)
  let y2 := !(asB (resC (t56 n1 l2) 0 0))
  chk ((okR zr57 zo57 y1) || !(!y2)) <|
  let y3 := y2 || (!(asB (resC y1 0 0)))
  chk ((okR zr58 zo58 (t58 l4)) || !(!y3)) <|
  let y4 := (y3 || (!(asB (resC (t58 l4) 0 0)))) || (decide ((l5.length : Int) > (3 : Int)))
  if y4 then
   some ([.one (.b false)], [])
  else
   la23o1 t56 t57 t58 t59 n1 l2 n3 l4 l5 false y4 n1 l2 n3 l4 l5
    (fun (n60 : Int) (b61 : Bool) (b62 : Bool) (n63 : Int) (n64 : Int) (n65 : Int) (n66 : Int) (s67 : ByteArray) =>
     some ([.one (.b false)], []))
    (fun (n68 : Int) (b69 : Bool) (v70 : SV) =>
     some ([.one (.b true)], [])) KK (0 : Int) SV.undef SV.undef
def t23 : Int → List (List D) → Int → List (List D) → List (List D) → Rs := ta23 t56 t57 t58 t59
def zr23 : List DV := [.one (.b false)]
def zo23 : List (List D) := []
def A23 : List TA := [.agg [.i .i64, .l, .i .i64, .l, .l]]
def v23 (vs : List Vr) : Rs := t23 (vI vs 0) (vL vs 1) (vI vs 2) (vL vs 3) (vL vs 4)
def g23 (xs : List DV) : Bool × List DV × List (List D) := gOf zr23 zo23 (argsT A23 v23 xs)
abbrev Y23 := Int → List (List D) → Int → List (List D) → List (List D) → Rs
def la27o1 (t23 : Y23) (l6 : List (List D)) (b7 : Bool) (b9 : Bool) (q1 : Int → Bool → Bool → Rs) (q2 : Int → Bool → SV → Rs) : Nat → Int → SV → SV → Rs
  | 0, _, _, _ => none
  | m + 1, n8, v10, v11 =>
    let y1 := decide (n8 < (l6.length : Int))
    if y1 then
     let y2 := l6.getD n8.toNat []
     chk (decide (0 ≤ n8) && decide (n8 < l6.length) && isRow z28 y2) <|
     let y3 := t23 (asI (nthD y2 0)) (asL (nthD y2 1)) (asI (nthD y2 2)) (asL (nthD y2 3)) (asL (nthD y2 4))
     chk (okR zr23 zo23 y3) <|
     let y4 := !(asB (resC y3 0 0))
     if y4 then
      q1 n8 y1 y4
     else
      la27o1 t23 l6 b7 b9 q1 q2 m (w64 (n8 + (1 : Int))) (.d (.b y1)) (.d (.b y4))
    else
     q2 n8 y1 (keepV [] v11)
/-- spec.StateOk -/
def ta27 (t23 : Y23) (l1 : List (List D)) : Rs :=
  let y1 := (l1.length : Int) != (3 : Int)
  if y1 then
   some ([.one (.b false)], [])
  else
   la27o1 t23 l1 false y1
    (fun (n24 : Int) (b25 : Bool) (b26 : Bool) =>
     some ([.one (.b false)], []))
    (fun (n27 : Int) (b28 : Bool) (v29 : SV) =>
     some ([.one (.b true)], [])) KK (0 : Int) SV.undef SV.undef
def t27 : List (List D) → Rs := ta27 t23
def zr27 : List DV := [.one (.b false)]
def zo27 : List (List D) := []
def A27 : List TA := [.one (.l)]
def v27 (vs : List Vr) : Rs := t27 (vL vs 0)
def g27 (xs : List DV) : Bool × List DV × List (List D) := gOf zr27 zo27 (argsT A27 v27 xs)
abbrev Y27 := List (List D) → Rs
def la69o1 (t57 : Y57) (s7 : ByteArray) (b8 : Bool) (q1 : Int → Bool → List (List D) → Rs) : Nat → Int → SV → List (List D) → Rs
  | 0, _, _, _ => none
  | m + 1, n6, v9, l10 =>
    let y1 := decide (n6 ≥ (128 : Int))
    if y1 then
     let y2 := ([[.i .u8 (IntKind.wrap .u8 (w64 ((128 : Int) + (n6.tmod (128 : Int)))))]] : List (List D))
     chk ((flatR 1 y2) && decide (l10.length + y2.length ≤ lim)) <|
     la69o1 t57 s7 b8 q1 m (w64 (n6.tdiv (128 : Int))) (.d (.b y1)) (l10 ++ y2)
    else
     q1 n6 y1 l10
/-- spec.Var -/
def ta69 (t57 : Y57) (n1 : Int) : Rs :=
  let y1 := t57 n1 (0 : Int) (562949953421311 : Int)
  chk (okR zr57 zo57 y1) <|
  let y2 := !(asB (resC y1 0 0))
  if y2 then
   some ([.one (.s (⟨#[]⟩ : ByteArray))], [])
  else
   la69o1 t57 (⟨#[]⟩ : ByteArray) y2
    (fun (n19 : Int) (b20 : Bool) (l21 : List (List D)) =>
     let y3 := ([[.i .u8 (IntKind.wrap .u8 n19)]] : List (List D))
     chk ((flatR 1 y3) && decide (l21.length + y3.length ≤ lim)) <|
     let y4 := l21 ++ y3
     chk (isBytes y4) <|
     some ([.one (.s ⟨(bytesD y4).toArray⟩)], [])) KK n1 SV.undef ([] : List (List D))
def t69 : Int → Rs := ta69 t57
def zr69 : List DV := [.one (.s ⟨#[]⟩)]
def zo69 : List (List D) := []
def A69 : List TA := [.one (.i .i64)]
def v69 (vs : List Vr) : Rs := t69 (vI vs 0)
def g69 (xs : List DV) : Bool × List DV × List (List D) := gOf zr69 zo69 (argsT A69 v69 xs)
abbrev Y69 := Int → Rs
/-- spec.l8Piece -/
def ta67 (t69 : Y69) (s1 : ByteArray) : Rs :=
  let y1 := t69 (s1.size : Int)
  chk (okR zr69 zo69 y1) <|
  let y2 := asS (resC y1 0 0)
  chk (decide (y2.size + s1.size ≤ lim)) <|
  some ([.one (.s (y2 ++ s1))], [])
def t67 : ByteArray → Rs := ta67 t69
def zr67 : List DV := [.one (.s ⟨#[]⟩)]
def zo67 : List (List D) := []
def A67 : List TA := [.one (.s)]
def v67 (vs : List Vr) : Rs := t67 (vS vs 0)
def g67 (xs : List DV) : Bool × List DV × List (List D) := gOf zr67 zo67 (argsT A67 v67 xs)
abbrev Y67 := ByteArray → Rs
def la68o3 (t56 : Y56) (t67 : Y67) (t69 : Y69) (n107 : Int) (l108 : List (List D)) (s109 : ByteArray) (n111 : Int) (b113 : Bool) (b114 : Bool) (n116 : Int) (l117 : List (List D)) (n118 : Int) (n119 : Int) (n120 : Int) (n121 : Int) (n122 : Int) (s123 : ByteArray) (l124 : List (List D)) (n125 : Int) (n126 : Int) (q1 : ByteArray → Int → Bool → Rs) : Nat → ByteArray → Int → SV → Rs
  | 0, _, _, _ => none
  | m + 1, s110, n112, v115 =>
    let y1 := decide (n112 < (l124.length : Int))
    if y1 then
     let y2 := l124.getD n112.toNat []
     chk (decide (0 ≤ n112) && decide (n112 < l124.length) && isRow z129 y2) <|
     let y3 := t67 (asS (nthD y2 0))
     chk (okR zr67 zo67 y3) <|
     let y4 := asS (resC y3 0 0)
     chk (decide (s110.size + y4.size ≤ lim)) <|
     let y5 := l124.getD n112.toNat []
     chk (decide (0 ≤ n112) && decide (n112 < l124.length) && isRow z129 y5) <|
     let y6 := t69 (asI (nthD y5 1))
     chk (okR zr69 zo69 y6) <|
     let y7 := s110 ++ y4
     let y8 := asS (resC y6 0 0)
     chk (decide (y7.size + y8.size ≤ lim)) <|
     la68o3 t56 t67 t69 n107 l108 s109 n111 b113 b114 n116 l117 n118 n119 n120 n121 n122 s123 l124 n125 n126 q1 m (y7 ++ y8) (w64 (n112 + (1 : Int))) (.d (.b y1))
    else
     q1 s110 n112 y1
def la68o1 (t56 : Y56) (t67 : Y67) (t69 : Y69) (n76 : Int) (l77 : List (List D)) (s78 : ByteArray) (b82 : Bool) (n85 : Int) (l86 : List (List D)) (q1 : ByteArray → Int → SV → Bool → SV → Rs) : Nat → ByteArray → Int → SV → SV → SV → Rs
  | 0, _, _, _, _, _ => none
  | m + 1, s79, n80, v81, v83, v84 =>
    let y1 := decide (n80 < (l86.length : Int))
    if y1 then
     let y2 := l86.getD n80.toNat []
     chk (decide (0 ≤ n80) && decide (n80 < l86.length) && isRow z64 y2) <|
     let y3 := asI (nthD y2 0)
     let y4 := t69 y3
     chk (okR zr69 zo69 y4) <|
     let y5 := asS (resC y4 0 0)
     chk (decide (s79.size + y5.size ≤ lim)) <|
     let y6 := asI (nthD y2 1)
     let y7 := t69 y6
     chk (okR zr69 zo69 y7) <|
     let y8 := s79 ++ y5
     let y9 := asS (resC y7 0 0)
     chk (decide (y8.size + y9.size ≤ lim)) <|
     let y10 := asI (nthD y2 2)
     let y11 := t69 y10
     chk (okR zr69 zo69 y11) <|
     let y12 := y8 ++ y9
     let y13 := asS (resC y11 0 0)
     chk (decide (y12.size + y13.size ≤ lim)) <|
     let y14 := asI (nthD y2 3)
     let y15 := t69 y14
     chk (okR zr69 zo69 y15) <|
     let y16 := y12 ++ y13
     let y17 := asS (resC y15 0 0)
     chk (decide (y16.size + y17.size ≤ lim)) <|
     let y18 := asI (nthD y2 4)
     let y19 := t69 y18
     chk (okR zr69 zo69 y19) <|
     let y20 := y16 ++ y17
     let y21 := asS (resC y19 0 0)
     chk (decide (y20.size + y21.size ≤ lim)) <|
     let y22 := asI (nthD y2 7)
     let y23 := t69 y22
     chk (okR zr69 zo69 y23) <|
     let y24 := y20 ++ y21
     let y25 := asS (resC y23 0 0)
     chk (decide (y24.size + y25.size ≤ lim)) <|
     let y26 := asI (nthD y2 8)
     let y27 := t69 y26
     chk (okR zr69 zo69 y27) <|
     let y28 := y24 ++ y25
     let y29 := asS (resC y27 0 0)
     chk (decide (y28.size + y29.size ≤ lim)) <|
     let y30 := asS (nthD y2 5)
     let y31 := t67 y30
     chk (okR zr67 zo67 y31) <|
     let y32 := y28 ++ y29
     let y33 := asS (resC y31 0 0)
     chk (decide (y32.size + y33.size ≤ lim)) <|
     let y34 := asL (nthD y2 6)
     let y35 := t69 (y34.length : Int)
     chk (okR zr69 zo69 y35) <|
     let y36 := y32 ++ y33
     let y37 := asS (resC y35 0 0)
     chk (decide (y36.size + y37.size ≤ lim)) <|
     la68o3 t56 t67 t69 n76 l77 s78 n80 b82 y1 n85 l86 y3 y6 y10 y14 y18 y30 y34 y22 y26
      (fun (s150 : ByteArray) (n151 : Int) (b152 : Bool) =>
       la68o1 t56 t67 t69 n76 l77 s78 b82 n85 l86 q1 m s150 (w64 (n80 + (1 : Int))) (.d (.i .i64 n151)) (.d (.b y1)) (.d (.b b152))) KK (y36 ++ y37) (0 : Int) v84
    else
     q1 s79 n80 (keepV [64] v81) y1 (keepV [64] v84)
/-- spec.ShowVol -/
def ta68 (t56 : Y56) (t67 : Y67) (t69 : Y69) (n1 : Int) (l2 : List (List D)) : Rs :=
  chk (okR zr56 zo56 (t56 n1 l2)) <|
  let y1 := !(asB (resC (t56 n1 l2) 0 0))
  if y1 then
   some ([.one (.s (⟨#[]⟩ : ByteArray))], [])
  else
   chk (okR zr69 zo69 (t69 n1)) <|
   let y2 := t69 (l2.length : Int)
   chk (okR zr69 zo69 y2) <|
   let y3 := asS (resC (t69 n1) 0 0)
   let y4 := asS (resC y2 0 0)
   chk (decide (y3.size + y4.size ≤ lim)) <|
   la68o1 t56 t67 t69 n1 l2 (⟨#[]⟩ : ByteArray) y1 n1 l2
    (fun (s169 : ByteArray) (n170 : Int) (v171 : SV) (b172 : Bool) (v173 : SV) =>
     some ([.one (.s s169)], [])) KK (y3 ++ y4) (0 : Int) SV.undef SV.undef SV.undef
def t68 : Int → List (List D) → Rs := ta68 t56 t67 t69
def zr68 : List DV := [.one (.s ⟨#[]⟩)]
def zo68 : List (List D) := []
def A68 : List TA := [.agg [.i .i64, .l]]
def v68 (vs : List Vr) : Rs := t68 (vI vs 0) (vL vs 1)
def g68 (xs : List DV) : Bool × List DV × List (List D) := gOf zr68 zo68 (argsT A68 v68 xs)
abbrev Y68 := Int → List (List D) → Rs
/-- spec.ShowResult -/
def ta70 (t59 : Y59) (t69 : Y69) (n1 : Int) (s2 : ByteArray) : Rs :=
  chk (okR zr59 zo59 (t59 n1 s2)) <|
  if !(asB (resC (t59 n1 s2) 0 0)) then
   some ([.one (.s (⟨#[]⟩ : ByteArray))], [])
  else
   chk (okR zr69 zo69 (t69 n1)) <|
   let y1 := asS (resC (t69 n1) 0 0)
   chk (decide (y1.size + s2.size ≤ lim)) <|
   some ([.one (.s (y1 ++ s2))], [])
def t70 : Int → ByteArray → Rs := ta70 t59 t69
def zr70 : List DV := [.one (.s ⟨#[]⟩)]
def zo70 : List (List D) := []
def A70 : List TA := [.agg [.i .i64, .s]]
def v70 (vs : List Vr) : Rs := t70 (vI vs 0) (vS vs 1)
def g70 (xs : List DV) : Bool × List DV × List (List D) := gOf zr70 zo70 (argsT A70 v70 xs)
abbrev Y70 := Int → ByteArray → Rs
def la30o3 (t23 : Y23) (t67 : Y67) (t68 : Y68) (t69 : Y69) (t70 : Y70) (n72 : Int) (l73 : List (List D)) (n74 : Int) (l75 : List (List D)) (l76 : List (List D)) (s77 : ByteArray) (n79 : Int) (b81 : Bool) (b82 : Bool) (n84 : Int) (l85 : List (List D)) (n86 : Int) (l87 : List (List D)) (l88 : List (List D)) (q1 : ByteArray → Int → Bool → Rs) : Nat → ByteArray → Int → SV → Rs
  | 0, _, _, _ => none
  | m + 1, s78, n80, v83 =>
    let y1 := decide (n80 < (l88.length : Int))
    if y1 then
     let y2 := l88.getD n80.toNat []
     chk (decide (0 ≤ n80) && decide (n80 < l88.length) && isRow z81 y2) <|
     let y3 := t69 (asI (nthD y2 0))
     chk (okR zr69 zo69 y3) <|
     let y4 := asS (resC y3 0 0)
     chk (decide (s78.size + y4.size ≤ lim)) <|
     let y5 := t69 (asI (nthD y2 1))
     chk (okR zr69 zo69 y5) <|
     let y6 := s78 ++ y4
     let y7 := asS (resC y5 0 0)
     chk (decide (y6.size + y7.size ≤ lim)) <|
     let y8 := t69 (asI (nthD y2 2))
     chk (okR zr69 zo69 y8) <|
     let y9 := y6 ++ y7
     let y10 := asS (resC y8 0 0)
     chk (decide (y9.size + y10.size ≤ lim)) <|
     let y11 := t70 (asI (nthD y2 3)) (asS (nthD y2 4))
     chk (okR zr70 zo70 y11) <|
     let y12 := t67 (asS (resC y11 0 0))
     chk (okR zr67 zo67 y12) <|
     let y13 := y9 ++ y10
     let y14 := asS (resC y12 0 0)
     chk (decide (y13.size + y14.size ≤ lim)) <|
     la30o3 t23 t67 t68 t69 t70 n72 l73 n74 l75 l76 s77 n79 b81 b82 n84 l85 n86 l87 l88 q1 m (y13 ++ y14) (w64 (n80 + (1 : Int))) (.d (.b y1))
    else
     q1 s78 n80 y1
def la30o1 (t23 : Y23) (t67 : Y67) (t68 : Y68) (t69 : Y69) (t70 : Y70) (n20 : Int) (l21 : List (List D)) (n22 : Int) (l23 : List (List D)) (l24 : List (List D)) (s25 : ByteArray) (b28 : Bool) (n30 : Int) (l31 : List (List D)) (n32 : Int) (l33 : List (List D)) (l34 : List (List D)) (q1 : ByteArray → Int → Bool → Rs) : Nat → ByteArray → Int → SV → Rs
  | 0, _, _, _ => none
  | m + 1, s26, n27, v29 =>
    let y1 := decide (n27 < (l33.length : Int))
    if y1 then
     let y2 := l33.getD n27.toNat []
     chk (decide (0 ≤ n27) && decide (n27 < l33.length) && isRow z90 y2) <|
     let y3 := t69 (asI (nthD y2 0))
     chk (okR zr69 zo69 y3) <|
     let y4 := asS (resC y3 0 0)
     chk (decide (s26.size + y4.size ≤ lim)) <|
     let y5 := t69 (asI (nthD y2 1))
     chk (okR zr69 zo69 y5) <|
     let y6 := s26 ++ y4
     let y7 := asS (resC y5 0 0)
     chk (decide (y6.size + y7.size ≤ lim)) <|
     let y8 := t69 (asI (nthD y2 2))
     chk (okR zr69 zo69 y8) <|
     let y9 := y6 ++ y7
     let y10 := asS (resC y8 0 0)
     chk (decide (y9.size + y10.size ≤ lim)) <|
     let y11 := t69 (asI (nthD y2 3))
     chk (okR zr69 zo69 y11) <|
     let y12 := y9 ++ y10
     let y13 := asS (resC y11 0 0)
     chk (decide (y12.size + y13.size ≤ lim)) <|
     let y14 := t69 (asI (nthD y2 4))
     chk (okR zr69 zo69 y14) <|
     let y15 := y12 ++ y13
     let y16 := asS (resC y14 0 0)
     chk (decide (y15.size + y16.size ≤ lim)) <|
     la30o1 t23 t67 t68 t69 t70 n20 l21 n22 l23 l24 s25 b28 n30 l31 n32 l33 l34 q1 m (y15 ++ y16) (w64 (n27 + (1 : Int))) (.d (.b y1))
    else
     q1 s26 n27 y1
/-- spec.ShowTenant -/
def ta30 (t23 : Y23) (t67 : Y67) (t68 : Y68) (t69 : Y69) (t70 : Y70) (n1 : Int) (l2 : List (List D)) (n3 : Int) (l4 : List (List D)) (l5 : List (List D)) : Rs :=
  let y1 := t23 n1 l2 n3 l4 l5
  chk (okR zr23 zo23 y1) <|
  let y2 := !(asB (resC y1 0 0))
  if y2 then
   some ([.one (.s (⟨#[]⟩ : ByteArray))], [])
  else
   chk (okR zr68 zo68 (t68 n1 l2)) <|
   let y3 := t67 (asS (resC (t68 n1 l2) 0 0))
   chk (okR zr67 zo67 y3) <|
   chk (okR zr69 zo69 (t69 n3)) <|
   let y4 := asS (resC y3 0 0)
   let y5 := asS (resC (t69 n3) 0 0)
   chk (decide (y4.size + y5.size ≤ lim)) <|
   let y6 := t69 (l4.length : Int)
   chk (okR zr69 zo69 y6) <|
   let y7 := y4 ++ y5
   let y8 := asS (resC y6 0 0)
   chk (decide (y7.size + y8.size ≤ lim)) <|
   la30o1 t23 t67 t68 t69 t70 n1 l2 n3 l4 l5 (⟨#[]⟩ : ByteArray) y2 n1 l2 n3 l4 l5
    (fun (s53 : ByteArray) (n54 : Int) (b55 : Bool) =>
     let y9 := t69 (l5.length : Int)
     chk (okR zr69 zo69 y9) <|
     let y10 := asS (resC y9 0 0)
     chk (decide (s53.size + y10.size ≤ lim)) <|
     la30o3 t23 t67 t68 t69 t70 n1 l2 n3 l4 l5 (⟨#[]⟩ : ByteArray) n54 y2 b55 n1 l2 n3 l4 l5
      (fun (s109 : ByteArray) (n110 : Int) (b111 : Bool) =>
       some ([.one (.s s109)], [])) KK (s53 ++ y10) (0 : Int) SV.undef) KK (y7 ++ y8) (0 : Int) SV.undef
def t30 : Int → List (List D) → Int → List (List D) → List (List D) → Rs := ta30 t23 t67 t68 t69 t70
def zr30 : List DV := [.one (.s ⟨#[]⟩)]
def zo30 : List (List D) := []
def A30 : List TA := [.agg [.i .i64, .l, .i .i64, .l, .l]]
def v30 (vs : List Vr) : Rs := t30 (vI vs 0) (vL vs 1) (vI vs 2) (vL vs 3) (vL vs 4)
def g30 (xs : List DV) : Bool × List DV × List (List D) := gOf zr30 zo30 (argsT A30 v30 xs)
abbrev Y30 := Int → List (List D) → Int → List (List D) → List (List D) → Rs
def la32o1 (t27 : Y27) (t30 : Y30) (t67 : Y67) (l7 : List (List D)) (s8 : ByteArray) (b11 : Bool) (q1 : ByteArray → Int → Bool → Rs) : Nat → ByteArray → Int → SV → Rs
  | 0, _, _, _ => none
  | m + 1, s9, n10, v12 =>
    let y1 := decide (n10 < (l7.length : Int))
    if y1 then
     let y2 := l7.getD n10.toNat []
     chk (decide (0 ≤ n10) && decide (n10 < l7.length) && isRow z28 y2) <|
     let y3 := t30 (asI (nthD y2 0)) (asL (nthD y2 1)) (asI (nthD y2 2)) (asL (nthD y2 3)) (asL (nthD y2 4))
     chk (okR zr30 zo30 y3) <|
     let y4 := t67 (asS (resC y3 0 0))
     chk (okR zr67 zo67 y4) <|
     let y5 := asS (resC y4 0 0)
     chk (decide (s9.size + y5.size ≤ lim)) <|
     la32o1 t27 t30 t67 l7 s8 b11 q1 m (s9 ++ y5) (w64 (n10 + (1 : Int))) (.d (.b y1))
    else
     q1 s9 n10 y1
/-- spec.ShowState -/
def ta32 (t27 : Y27) (t30 : Y30) (t67 : Y67) (l1 : List (List D)) : Rs :=
  chk (okR zr27 zo27 (t27 l1)) <|
  let y1 := !(asB (resC (t27 l1) 0 0))
  if y1 then
   some ([.one (.s (⟨#[]⟩ : ByteArray))], [])
  else
   la32o1 t27 t30 t67 l1 (⟨#[]⟩ : ByteArray) y1
    (fun (s22 : ByteArray) (n23 : Int) (b24 : Bool) =>
     some ([.one (.s s22)], [])) KK (⟨#[]⟩ : ByteArray) (0 : Int) SV.undef
def t32 : List (List D) → Rs := ta32 t27 t30 t67
def zr32 : List DV := [.one (.s ⟨#[]⟩)]
def zo32 : List (List D) := []
def A32 : List TA := [.one (.l)]
def v32 (vs : List Vr) : Rs := t32 (vL vs 0)
def g32 (xs : List DV) : Bool × List DV × List (List D) := gOf zr32 zo32 (argsT A32 v32 xs)
abbrev Y32 := List (List D) → Rs
/-- impl.within -/
def t63 (n1 : Int) (n2 : Int) (n3 : Int) : Rs :=
  some ([.one (.b ((decide (n1 ≥ n2)) && (decide (n1 ≤ n3))))], [])
def zr63 : List DV := [.one (.b false)]
def zo63 : List (List D) := []
def A63 : List TA := [.one (.i .i64), .one (.i .i64), .one (.i .i64)]
def v63 (vs : List Vr) : Rs := t63 (vI vs 0) (vI vs 1) (vI vs 2)
def g63 (xs : List DV) : Bool × List DV × List (List D) := gOf zr63 zo63 (argsT A63 v63 xs)
abbrev Y63 := Int → Int → Int → Rs
/-- impl.ResultOk -/
def ta64 (t63 : Y63) (n1 : Int) (s2 : ByteArray) : Rs :=
  let y1 := t63 n1 (0 : Int) (200 : Int)
  chk (okR zr63 zo63 y1) <|
  some ([.one (.b ((asB (resC y1 0 0)) && (decide ((s2.size : Int) ≤ (400 : Int)))))], [])
def t64 : Int → ByteArray → Rs := ta64 t63
def zr64 : List DV := [.one (.b false)]
def zo64 : List (List D) := []
def A64 : List TA := [.agg [.i .i64, .s]]
def v64 (vs : List Vr) : Rs := t64 (vI vs 0) (vS vs 1)
def g64 (xs : List DV) : Bool × List DV × List (List D) := gOf zr64 zo64 (argsT A64 v64 xs)
abbrev Y64 := Int → ByteArray → Rs
def la65o0 (t63 : Y63) (l7 : List (List D)) (b8 : Bool) (l10 : List (List D)) (n11 : Int) (q1 : Int → Bool → Bool → Int → Int → Int → Int → Int → Rs) (q2 : SV → Int → Bool → SV → Rs) : Nat → SV → Int → SV → SV → Rs
  | 0, _, _, _, _ => none
  | m + 1, v9, n12, v13, v14 =>
    let y1 := decide (n12 < n11)
    if y1 then
     let y2 := l10.getD n12.toNat []
     chk (decide (0 ≤ n12) && decide (n12 < l10.length) && isRow z90 y2) <|
     let y3 := asI (nthD y2 0)
     let y4 := t63 y3 (1 : Int) (100000 : Int)
     chk (okR zr63 zo63 y4) <|
     let y5 := w64 (n12 - (1 : Int))
     let y6 := l7.getD y5.toNat []
     let y7 := !(asB (resC y4 0 0))
     let y8 := decide (n12 > (0 : Int))
     chk ((decide (0 ≤ y5) && decide (y5 < l7.length) && isRow z90 y6) || !((!y7) && y8)) <|
     let y9 := asI (nthD y2 1)
     let y10 := t63 y9 (1 : Int) (3 : Int)
     let y11 := y7 || (y8 && (decide ((asI (nthD y6 0)) > y3)))
     chk ((okR zr63 zo63 y10) || !(!y11)) <|
     let y12 := asI (nthD y2 2)
     let y13 := t63 y12 (1 : Int) (1000000 : Int)
     let y14 := y11 || (!(asB (resC y10 0 0)))
     chk ((okR zr63 zo63 y13) || !(!y14)) <|
     let y15 := asI (nthD y2 3)
     let y16 := t63 y15 (1 : Int) (22 : Int)
     let y17 := y14 || (!(asB (resC y13 0 0)))
     chk ((okR zr63 zo63 y16) || !(!y17)) <|
     let y18 := asI (nthD y2 4)
     let y19 := t63 y18 (0 : Int) (200 : Int)
     let y20 := y17 || (!(asB (resC y16 0 0)))
     chk ((okR zr63 zo63 y19) || !(!y20)) <|
     let y21 := y20 || (!(asB (resC y19 0 0)))
     if y21 then
      q1 n12 y1 y21 y3 y9 y12 y15 y18
     else
      la65o0 t63 l7 b8 l10 n11 q1 q2 m (.d (.i .i64 n12)) (w64 (n12 + (1 : Int))) (.d (.b y1)) (.d (.b y21))
    else
     q2 (keepV [] v9) n12 y1 (keepV [] v14)
/-- impl.AuditOk -/
def ta65 (t63 : Y63) (l1 : List (List D)) : Rs :=
  la65o0 t63 l1 false l1 (l1.length : Int)
   (fun (n35 : Int) (b36 : Bool) (b37 : Bool) (n38 : Int) (n39 : Int) (n40 : Int) (n41 : Int) (n42 : Int) =>
    some ([.one (.b false)], []))
   (fun (v43 : SV) (n44 : Int) (b45 : Bool) (v46 : SV) =>
    some ([.one (.b (decide ((l1.length : Int) ≤ (20 : Int))))], [])) KK SV.undef (0 : Int) SV.undef SV.undef
def t65 : List (List D) → Rs := ta65 t63
def zr65 : List DV := [.one (.b false)]
def zo65 : List (List D) := []
def A65 : List TA := [.one (.l)]
def v65 (vs : List Vr) : Rs := t65 (vL vs 0)
def g65 (xs : List DV) : Bool × List DV × List (List D) := gOf zr65 zo65 (argsT A65 v65 xs)
abbrev Y65 := List (List D) → Rs
/-- impl.isNameByte -/
def t141 (n1 : Int) : Rs :=
  some ([.one (.b ((((((decide (n1 ≥ (97 : Int))) && (decide (n1 ≤ (122 : Int)))) || ((decide (n1 ≥ (48 : Int))) && (decide (n1 ≤ (57 : Int))))) || (n1 == (46 : Int))) || (n1 == (95 : Int))) || (n1 == (45 : Int))))], [])
def zr141 : List DV := [.one (.b false)]
def zo141 : List (List D) := []
def A141 : List TA := [.one (.i .u8)]
def v141 (vs : List Vr) : Rs := t141 (vI vs 0)
def g141 (xs : List DV) : Bool × List DV × List (List D) := gOf zr141 zo141 (argsT A141 v141 xs)
abbrev Y141 := Int → Rs
def la130o0 (t63 : Y63) (t141 : Y141) (s6 : ByteArray) (b7 : Bool) (n9 : Int) (q1 : Int → Bool → Bool → Rs) (q2 : SV → Int → Bool → SV → Rs) : Nat → SV → Int → SV → SV → Rs
  | 0, _, _, _, _ => none
  | m + 1, v8, n10, v11, v12 =>
    let y1 := decide (n10 < n9)
    if y1 then
     chk (decide (0 ≤ n10 ∧ n10 < s6.size)) <|
     let y2 := ((s6.get! n10.toNat).toNat) != (47 : Int)
     chk ((decide (0 ≤ n10 ∧ n10 < s6.size)) || !y2) <|
     let y3 := t141 ((s6.get! n10.toNat).toNat)
     chk ((okR zr141 zo141 y3) || !y2) <|
     let y4 := y2 && (!(asB (resC y3 0 0)))
     if y4 then
      q1 n10 y1 y4
     else
      la130o0 t63 t141 s6 b7 n9 q1 q2 m (.d (.i .i64 n10)) (w64 (n10 + (1 : Int))) (.d (.b y1)) (.d (.b y4))
    else
     q2 (keepV [] v8) n10 y1 (keepV [] v12)
/-- impl.isTarget -/
def ta130 (t63 : Y63) (t141 : Y141) (s1 : ByteArray) : Rs :=
  la130o0 t63 t141 s1 false (s1.size : Int)
   (fun (n27 : Int) (b28 : Bool) (b29 : Bool) =>
    some ([.one (.b false)], []))
   (fun (v30 : SV) (n31 : Int) (b32 : Bool) (v33 : SV) =>
    let y1 := t63 (s1.size : Int) (1 : Int) (60 : Int)
    chk (okR zr63 zo63 y1) <|
    some ([.one (.b (asB (resC y1 0 0)))], [])) KK SV.undef (0 : Int) SV.undef SV.undef
def t130 : ByteArray → Rs := ta130 t63 t141
def zr130 : List DV := [.one (.b false)]
def zo130 : List (List D) := []
def A130 : List TA := [.one (.s)]
def v130 (vs : List Vr) : Rs := t130 (vS vs 0)
def g130 (xs : List DV) : Bool × List DV × List (List D) := gOf zr130 zo130 (argsT A130 v130 xs)
abbrev Y130 := ByteArray → Rs
def la142o0 (t63 : Y63) (t141 : Y141) (s6 : ByteArray) (b7 : Bool) (n9 : Int) (q1 : Int → Bool → Bool → Rs) (q2 : SV → Int → Bool → SV → Rs) : Nat → SV → Int → SV → SV → Rs
  | 0, _, _, _, _ => none
  | m + 1, v8, n10, v11, v12 =>
    let y1 := decide (n10 < n9)
    if y1 then
     chk (decide (0 ≤ n10 ∧ n10 < s6.size)) <|
     let y2 := t141 ((s6.get! n10.toNat).toNat)
     chk (okR zr141 zo141 y2) <|
     let y3 := !(asB (resC y2 0 0))
     if y3 then
      q1 n10 y1 y3
     else
      la142o0 t63 t141 s6 b7 n9 q1 q2 m (.d (.i .i64 n10)) (w64 (n10 + (1 : Int))) (.d (.b y1)) (.d (.b y3))
    else
     q2 (keepV [] v8) n10 y1 (keepV [] v12)
/-- impl.NameOk -/
def ta142 (t63 : Y63) (t141 : Y141) (s1 : ByteArray) : Rs :=
  la142o0 t63 t141 s1 false (s1.size : Int)
   (fun (n27 : Int) (b28 : Bool) (b29 : Bool) =>
    some ([.one (.b false)], []))
   (fun (v30 : SV) (n31 : Int) (b32 : Bool) (v33 : SV) =>
    let y1 := t63 (s1.size : Int) (1 : Int) (8 : Int)
    chk (okR zr63 zo63 y1) <|
    some ([.one (.b (((asB (resC y1 0 0)) && (!(s1.toList == (⟨#[46]⟩ : ByteArray).toList))) && (!(s1.toList == (⟨#[46, 46]⟩ : ByteArray).toList))))], [])) KK SV.undef (0 : Int) SV.undef SV.undef
def t142 : ByteArray → Rs := ta142 t63 t141
def zr142 : List DV := [.one (.b false)]
def zo142 : List (List D) := []
def A142 : List TA := [.one (.s)]
def v142 (vs : List Vr) : Rs := t142 (vS vs 0)
def g142 (xs : List DV) : Bool × List DV × List (List D) := gOf zr142 zo142 (argsT A142 v142 xs)
abbrev Y142 := ByteArray → Rs
def l132o0 (n9 : Int) (l10 : List (List D)) (n11 : Int) (n13 : Int) (q1 : Int → Int → Int → Int → Int → ByteArray → List (List D) → Int → Int → Int → Bool → Bool → Rs) (q2 : SV → Int → Bool → SV → Rs) : Nat → SV → Int → SV → SV → Rs
  | 0, _, _, _, _ => none
  | m + 1, v12, n14, v15, v16 =>
    let y1 := decide (n14 < n13)
    if y1 then
     let y2 := l10.getD n14.toNat []
     chk (decide (0 ≤ n14) && decide (n14 < l10.length) && isRow z64 y2) <|
     let y3 := (asI (nthD y2 0)) == n11
     if y3 then
      let y4 := l10.getD n14.toNat []
      chk (decide (0 ≤ n14) && decide (n14 < l10.length) && isRow z64 y4) <|
      q1 (asI (nthD y4 0)) (asI (nthD y4 1)) (asI (nthD y4 2)) (asI (nthD y4 3)) (asI (nthD y4 4)) (asS (nthD y4 5)) (asL (nthD y4 6)) (asI (nthD y4 7)) (asI (nthD y4 8)) n14 y1 y3
     else
      l132o0 n9 l10 n11 n13 q1 q2 m (.d (.i .i64 n14)) (w64 (n14 + (1 : Int))) (.d (.b y1)) (.d (.b y3))
    else
     q2 (keepV [] v12) n14 y1 (keepV [] v16)
/-- (*impl.Vol).inode -/
def t132 (n1 : Int) (l2 : List (List D)) (n3 : Int) : Rs :=
  l132o0 n1 l2 n3 (l2.length : Int)
   (fun (n41 : Int) (n42 : Int) (n43 : Int) (n44 : Int) (n45 : Int) (s46 : ByteArray) (l47 : List (List D)) (n48 : Int) (n49 : Int) (n50 : Int) (b51 : Bool) (b52 : Bool) =>
    some ([.one (.b true), .agg [.i .i64 n41, .i .i64 n42, .i .i64 n43, .i .i64 n44, .i .i64 n45, .s s46, .l l47, .i .i64 n48, .i .i64 n49]], []))
   (fun (v53 : SV) (n54 : Int) (b55 : Bool) (v56 : SV) =>
    some ([.one (.b false), .agg [.i .i64 (0 : Int), .i .i64 (0 : Int), .i .i64 (0 : Int), .i .i64 (0 : Int), .i .i64 (0 : Int), .s (⟨#[]⟩ : ByteArray), .l ([] : List (List D)), .i .i64 (0 : Int), .i .i64 (0 : Int)]], [])) KK SV.undef (0 : Int) SV.undef SV.undef
def zr132 : List DV := [.one (.b false), .agg [.i .i64 0, .i .i64 0, .i .i64 0, .i .i64 0, .i .i64 0, .s ⟨#[]⟩, .l [], .i .i64 0, .i .i64 0]]
def zo132 : List (List D) := []
def A132 : List TA := [.ptr [.i .i64, .l], .one (.i .i64)]
def v132 (vs : List Vr) : Rs := t132 (vI vs 0) (vL vs 1) (vI vs 2)
def g132 (xs : List DV) : Bool × List DV × List (List D) := gOf zr132 zo132 (argsT A132 v132 xs)
abbrev Y132 := Int → List (List D) → Int → Rs
def la131o0 (t132 : Y132) (t142 : Y142) (n36 : Int) (l37 : List (List D)) (n38 : Int) (n39 : Int) (n40 : Int) (n41 : Int) (n42 : Int) (s43 : ByteArray) (l44 : List (List D)) (n45 : Int) (n46 : Int) (b47 : Bool) (l49 : List (List D)) (n50 : Int) (n54 : Int) (n55 : Int) (n56 : Int) (n57 : Int) (n58 : Int) (s59 : ByteArray) (l60 : List (List D)) (n61 : Int) (n62 : Int) (q1 : Int → Bool → Bool → ByteArray → Int → Rs) (q2 : SV → Int → Bool → SV → Rs) : Nat → SV → Int → SV → SV → Rs
  | 0, _, _, _, _ => none
  | m + 1, v48, n51, v52, v53 =>
    let y1 := decide (n51 < n50)
    if y1 then
     let y2 := l49.getD n51.toNat []
     chk (decide (0 ≤ n51) && decide (n51 < l49.length) && isRow z129 y2) <|
     let y3 := asS (nthD y2 0)
     let y4 := t142 y3
     chk (okR zr142 zo142 y4) <|
     let y5 := asI (nthD y2 1)
     let y6 := t132 n36 l37 y5
     let y7 := (!(asB (resC y4 0 0))) || (y5 == (1 : Int))
     chk ((okR zr132 zo132 y6) || !(!y7)) <|
     let y8 := w64 (n51 - (1 : Int))
     let y9 := l60.getD y8.toNat []
     let y10 := y7 || (!(asB (resC y6 0 0)))
     let y11 := decide (n51 > (0 : Int))
     chk ((decide (0 ≤ y8) && decide (y8 < l60.length) && isRow z129 y9) || !((!y10) && y11)) <|
     let y12 := y10 || (y11 && (!(Op.bytesLess (asS (nthD y9 0)).toList y3.toList)))
     if y12 then
      q1 n51 y1 y12 y3 y5
     else
      la131o0 t132 t142 n36 l37 n38 n39 n40 n41 n42 s43 l44 n45 n46 b47 l49 n50 n54 n55 n56 n57 n58 s59 l60 n61 n62 q1 q2 m (.d (.i .i64 n51)) (w64 (n51 + (1 : Int))) (.d (.b y1)) (.d (.b y12))
    else
     q2 (keepV [192] v48) n51 y1 (keepV [192] v53)
/-- (*impl.Vol).namesOk -/
def ta131 (t132 : Y132) (t142 : Y142) (n1 : Int) (l2 : List (List D)) (n3 : Int) (n4 : Int) (n5 : Int) (n6 : Int) (n7 : Int) (s8 : ByteArray) (l9 : List (List D)) (n10 : Int) (n11 : Int) : Rs :=
  la131o0 t132 t142 n1 l2 n3 n4 n5 n6 n7 s8 l9 n10 n11 false l9 (l9.length : Int) n3 n4 n5 n6 n7 s8 l9 n10 n11
   (fun (n99 : Int) (b100 : Bool) (b101 : Bool) (s102 : ByteArray) (n103 : Int) =>
    some ([.one (.b false)], []))
   (fun (v104 : SV) (n105 : Int) (b106 : Bool) (v107 : SV) =>
    some ([.one (.b (decide ((l9.length : Int) ≤ (12 : Int))))], [])) KK SV.undef (0 : Int) SV.undef SV.undef
def t131 : Int → List (List D) → Int → Int → Int → Int → Int → ByteArray → List (List D) → Int → Int → Rs := ta131 t132 t142
def zr131 : List DV := [.one (.b false)]
def zo131 : List (List D) := []
def A131 : List TA := [.ptr [.i .i64, .l], .agg [.i .i64, .i .i64, .i .i64, .i .i64, .i .i64, .s, .l, .i .i64, .i .i64]]
def v131 (vs : List Vr) : Rs := t131 (vI vs 0) (vL vs 1) (vI vs 2) (vI vs 3) (vI vs 4) (vI vs 5) (vI vs 6) (vS vs 7) (vL vs 8) (vI vs 9) (vI vs 10)
def g131 (xs : List DV) : Bool × List DV × List (List D) := gOf zr131 zo131 (argsT A131 v131 xs)
abbrev Y131 := Int → List (List D) → Int → Int → Int → Int → Int → ByteArray → List (List D) → Int → Int → Rs
/-- (*impl.Vol).inodeOk -/
def ta99 (t63 : Y63) (t130 : Y130) (t131 : Y131) (n1 : Int) (l2 : List (List D)) (n3 : Int) (n4 : Int) (n5 : Int) (n6 : Int) (n7 : Int) (s8 : ByteArray) (l9 : List (List D)) (n10 : Int) (n11 : Int) : Rs :=
  let y1 := t63 n5 (0 : Int) (2047 : Int)
  chk (okR zr63 zo63 y1) <|
  let y2 := t63 n6 (0 : Int) (1000 : Int)
  let y3 := !(asB (resC y1 0 0))
  chk ((okR zr63 zo63 y2) || !(!y3)) <|
  let y4 := t63 n7 (0 : Int) (1000 : Int)
  let y5 := y3 || (!(asB (resC y2 0 0)))
  chk ((okR zr63 zo63 y4) || !(!y5)) <|
  if y5 || (!(asB (resC y4 0 0))) then
   some ([.one (.b false)], [])
  else
   if (n4 != (2 : Int)) && (((decide ((l9.length : Int) > (0 : Int))) || (n10 != (0 : Int))) || (n11 != (0 : Int))) then
    some ([.one (.b false)], [])
   else
    if n4 == (1 : Int) then
     some ([.one (.b (decide ((s8.size : Int) ≤ (64 : Int))))], [])
    else
     if n4 == (3 : Int) then
      chk (okR zr130 zo130 (t130 s8)) <|
      some ([.one (.b ((asB (resC (t130 s8) 0 0)) && (n5 == (511 : Int))))], [])
     else
      if n4 == (2 : Int) then
       let y6 := t131 n1 l2 n3 n4 n5 n6 n7 s8 l9 n10 n11
       let y7 := s8.toList == (⟨#[]⟩ : ByteArray).toList
       chk ((okR zr131 zo131 y6) || !y7) <|
       let y8 := t63 n10 (0 : Int) (400 : Int)
       let y9 := y7 && (asB (resC y6 0 0))
       chk ((okR zr63 zo63 y8) || !y9) <|
       let y10 := t63 n11 (0 : Int) (24 : Int)
       let y11 := y9 && (asB (resC y8 0 0))
       chk ((okR zr63 zo63 y10) || !y11) <|
       some ([.one (.b (y11 && (asB (resC y10 0 0))))], [])
      else
       some ([.one (.b false)], [])
def t99 : Int → List (List D) → Int → Int → Int → Int → Int → ByteArray → List (List D) → Int → Int → Rs := ta99 t63 t130 t131
def zr99 : List DV := [.one (.b false)]
def zo99 : List (List D) := []
def A99 : List TA := [.ptr [.i .i64, .l], .agg [.i .i64, .i .i64, .i .i64, .i .i64, .i .i64, .s, .l, .i .i64, .i .i64]]
def v99 (vs : List Vr) : Rs := t99 (vI vs 0) (vL vs 1) (vI vs 2) (vI vs 3) (vI vs 4) (vI vs 5) (vI vs 6) (vS vs 7) (vL vs 8) (vI vs 9) (vI vs 10)
def g99 (xs : List DV) : Bool × List DV × List (List D) := gOf zr99 zo99 (argsT A99 v99 xs)
abbrev Y99 := Int → List (List D) → Int → Int → Int → Int → Int → ByteArray → List (List D) → Int → Int → Rs
def l133o0 (l8 : List (List D)) (n9 : Int) (n10 : Int) (n12 : Int) (q1 : Int → Bool → Bool → Rs) (q2 : SV → Int → Bool → SV → Rs) : Nat → SV → Int → SV → SV → Rs
  | 0, _, _, _, _ => none
  | m + 1, v11, n13, v14, v15 =>
    let y1 := decide (n13 < n12)
    if y1 then
     let y2 := l8.getD n13.toNat []
     chk (decide (0 ≤ n13) && decide (n13 < l8.length) && isRow z3 y2) <|
     let y3 := n9 == (asI (nthD y2 0))
     if y3 then
      q1 n13 y1 y3
     else
      l133o0 l8 n9 n10 n12 q1 q2 m (.d (.i .i64 n13)) (w64 (n13 + (1 : Int))) (.d (.b y1)) (.d (.b y3))
    else
     q2 (keepV [] v11) n13 y1 (keepV [] v15)
/-- slices.Index[[]int,int] -/
def t133 (l1 : List (List D)) (n2 : Int) : Rs :=
  l133o0 l1 n2 (0 : Int) (l1.length : Int)
   (fun (n31 : Int) (b32 : Bool) (b33 : Bool) =>
    some ([.one (.i .i64 n31)], []))
   (fun (v34 : SV) (n35 : Int) (b36 : Bool) (v37 : SV) =>
    some ([.one (.i .i64 (-1 : Int))], [])) KK SV.undef (0 : Int) SV.undef SV.undef
def zr133 : List DV := [.one (.i .i64 0)]
def zo133 : List (List D) := []
def A133 : List TA := [.one (.l), .one (.i .i64)]
def v133 (vs : List Vr) : Rs := t133 (vL vs 0) (vI vs 1)
def g133 (xs : List DV) : Bool × List DV × List (List D) := gOf zr133 zo133 (argsT A133 v133 xs)
abbrev Y133 := List (List D) → Int → Rs
/-- slices.Contains[[]int,int] -/
def ta101 (t133 : Y133) (l1 : List (List D)) (n2 : Int) : Rs :=
  chk (okR zr133 zo133 (t133 l1 n2)) <|
  some ([.one (.b (decide ((asI (resC (t133 l1 n2) 0 0)) ≥ (0 : Int))))], [])
def t101 : List (List D) → Int → Rs := ta101 t133
def zr101 : List DV := [.one (.b false)]
def zo101 : List (List D) := []
def A101 : List TA := [.one (.l), .one (.i .i64)]
def v101 (vs : List Vr) : Rs := t101 (vL vs 0) (vI vs 1)
def g101 (xs : List DV) : Bool × List DV × List (List D) := gOf zr101 zo101 (argsT A101 v101 xs)
abbrev Y101 := List (List D) → Int → Rs
def la100o3 (t101 : Y101) (t132 : Y132) (n99 : Int) (l100 : List (List D)) (n101 : Int) (n102 : Int) (b104 : Bool) (b105 : Bool) (l106 : List (List D)) (n107 : Int) (q1 : SV → Int → Bool → SV → List (List D) → List (List D) → Rs) : Nat → SV → Int → SV → SV → List (List D) → List (List D) → Rs
  | 0, _, _, _, _, _, _ => none
  | m + 1, v103, n108, v109, v110, l111, l112 =>
    let y1 := decide (n108 < n107)
    if y1 then
     let y2 := l106.getD n108.toNat []
     chk (decide (0 ≤ n108) && decide (n108 < l106.length) && isRow z129 y2) <|
     let y3 := asI (nthD y2 1)
     let y4 := t101 l111 y3
     chk (okR zr101 zo101 y4) <|
     let k1 := fun (v113 : SV) (l114 : List (List D)) (l115 : List (List D)) =>
      let y5 := !(asB (resC y4 0 0))
      la100o3 t101 t132 n99 l100 n101 n102 b104 b105 l106 n107 q1 m (keepV [704, 832] v113) (w64 (n108 + (1 : Int))) (.d (.b y1)) (.d (.b y5)) l114 l115
     let y6 := !(asB (resC y4 0 0))
     if y6 then
      let y7 := ([[.i .i64 y3]] : List (List D))
      chk ((flatR 1 y7) && decide (l111.length + y7.length ≤ lim)) <|
      let y8 := ([[.i .i64 y3]] : List (List D))
      chk ((flatR 1 y8) && decide (l112.length + y8.length ≤ lim)) <|
      k1 (killV 3200 (killV 2880 (killV 832 (killV 704 v103)))) (l111 ++ y7) (l112 ++ y8)
     else
      k1 v103 l111 l112
    else
     q1 (keepV [704, 832] v103) n108 y1 (keepV [704, 832] v110) l111 l112
def la100o0 (t101 : Y101) (t132 : Y132) (n68 : Int) (l69 : List (List D)) (n70 : Int) (q1 : Int → SV → Bool → SV → SV → SV → SV → SV → SV → List (List D) → List (List D) → Rs) : Nat → Int → SV → SV → SV → SV → SV → SV → SV → SV → List (List D) → List (List D) → Rs
  | 0, _, _, _, _, _, _, _, _, _, _, _ => none
  | m + 1, n71, v72, v73, v74, v75, v76, v77, v78, v79, l80, l81 =>
    let y1 := decide (n71 < (l81.length : Int))
    if y1 then
     chk (decide (0 ≤ n71) && decide (n71 < l81.length)) <|
     let y2 := l81.getD (n71.toNat) []
     chk (decide (1 ≤ y2.length) && isF z3 0 y2) <|
     let y3 := t132 n68 l69 (asI (nthD y2 0))
     chk (okR zr132 zo132 y3) <|
     let y4 := asB (resC y3 0 0)
     let y5 := !y4
     if y5 then
      let y6 := asI (resC y3 1 0)
      let y7 := asI (resC y3 1 1)
      let y8 := asI (resC y3 1 2)
      let y9 := asI (resC y3 1 3)
      let y10 := asI (resC y3 1 4)
      let y11 := asS (resC y3 1 5)
      let y12 := asL (resC y3 1 6)
      let y13 := asI (resC y3 1 7)
      let y14 := asI (resC y3 1 8)
      la100o0 t101 t132 n68 l69 n70 q1 m (w64 (n71 + (1 : Int))) (SV.op y4 [.i .i64 y6, .i .i64 y7, .i .i64 y8, .i .i64 y9, .i .i64 y10, .s y11, .l y12, .i .i64 y13, .i .i64 y14]) (.d (.b y1)) (.d (.b y5)) (keepV [704, 832] v75) (keepV [704, 832] v76) (keepV [704, 832] v77) (keepV [704, 832] v78) (keepV [704, 832] v79) l80 l81
     else
      chk (y4) <|
      let y15 := asL (resC y3 1 6)
      let y16 := (y15.length : Int)
      let y17 := asI (resC y3 1 0)
      let y18 := asI (resC y3 1 1)
      let y19 := asI (resC y3 1 2)
      let y20 := asI (resC y3 1 3)
      let y21 := asI (resC y3 1 4)
      let y22 := asS (resC y3 1 5)
      let y23 := asI (resC y3 1 7)
      let y24 := asI (resC y3 1 8)
      la100o3 t101 t132 n68 l69 n70 n71 y1 y5 y15 y16
       (fun (v136 : SV) (n137 : Int) (b138 : Bool) (v139 : SV) (l140 : List (List D)) (l141 : List (List D)) =>
        la100o0 t101 t132 n68 l69 n70 q1 m (w64 (n71 + (1 : Int))) (keepV [704, 832] v136) (.d (.b y1)) (.d (.b y5)) (.d (.l y15)) (.d (.i .i64 y16)) (.d (.i .i64 n137)) (.d (.b b138)) (keepV [704, 832] v139) l140 l141) KK (SV.op y4 [.i .i64 y17, .i .i64 y18, .i .i64 y19, .i .i64 y20, .i .i64 y21, .s y22, .l y15, .i .i64 y23, .i .i64 y24]) (0 : Int) v78 v79 l80 l81
    else
     q1 n71 (keepV [704, 832] v72) y1 (keepV [704, 832] v74) (keepV [704, 832] v75) (keepV [704, 832] v76) (keepV [704, 832] v77) (keepV [704, 832] v78) (keepV [704, 832] v79) l80 l81
/-- (*impl.Vol).below -/
def ta100 (t101 : Y101) (t132 : Y132) (n1 : Int) (l2 : List (List D)) (n3 : Int) : Rs :=
  la100o0 t101 t132 n1 l2 n3
   (fun (n181 : Int) (v182 : SV) (b183 : Bool) (v184 : SV) (v185 : SV) (v186 : SV) (v187 : SV) (v188 : SV) (v189 : SV) (l190 : List (List D)) (l191 : List (List D)) =>
    some ([.one (.l l190)], [])) KK (0 : Int) SV.undef SV.undef SV.undef SV.undef SV.undef SV.undef SV.undef SV.undef ([] : List (List D)) ([[.i .i64 n3]] : List (List D))
def t100 : Int → List (List D) → Int → Rs := ta100 t101 t132
def zr100 : List DV := [.one (.l [])]
def zo100 : List (List D) := []
def A100 : List TA := [.ptr [.i .i64, .l], .one (.i .i64)]
def v100 (vs : List Vr) : Rs := t100 (vI vs 0) (vL vs 1) (vI vs 2)
def g100 (xs : List DV) : Bool × List DV × List (List D) := gOf zr100 zo100 (argsT A100 v100 xs)
abbrev Y100 := Int → List (List D) → Int → Rs
def l102o2 (n127 : Int) (l128 : List (List D)) (n129 : Int) (n130 : Int) (l132 : List (List D)) (n133 : Int) (n134 : Int) (b135 : Bool) (l136 : List (List D)) (n137 : Int) (n141 : Int) (n142 : Int) (n143 : Int) (n144 : Int) (n145 : Int) (s146 : ByteArray) (l147 : List (List D)) (n148 : Int) (n149 : Int) (q1 : Int → Int → Bool → SV → Rs) : Nat → Int → Int → SV → SV → Rs
  | 0, _, _, _, _ => none
  | m + 1, n131, n138, v139, v140 =>
    let y1 := decide (n138 < n137)
    if y1 then
     let y2 := l136.getD n138.toNat []
     chk (decide (0 ≤ n138) && decide (n138 < l136.length) && isRow z129 y2) <|
     let k1 := fun (n150 : Int) =>
      let y3 := (asI (nthD y2 1)) == n129
      l102o2 n127 l128 n129 n130 l132 n133 n134 b135 l136 n137 n141 n142 n143 n144 n145 s146 l147 n148 n149 q1 m n150 (w64 (n138 + (1 : Int))) (.d (.b y1)) (.d (.b y3))
     let y4 := (asI (nthD y2 1)) == n129
     if y4 then
      k1 (w64 (n131 + (1 : Int)))
     else
      k1 n131
    else
     q1 n131 n138 y1 (keepV [448] v140)
def l102o0 (n89 : Int) (l90 : List (List D)) (n91 : Int) (n92 : Int) (l94 : List (List D)) (n95 : Int) (q1 : Int → Int → Bool → SV → SV → SV → SV → SV → Rs) : Nat → Int → Int → SV → SV → SV → SV → SV → SV → Rs
  | 0, _, _, _, _, _, _, _, _ => none
  | m + 1, n93, n96, v97, v98, v99, v100, v101, v102 =>
    let y1 := decide (n96 < n95)
    if y1 then
     let y2 := l94.getD n96.toNat []
     chk (decide (0 ≤ n96) && decide (n96 < l94.length) && isRow z64 y2) <|
     let y3 := asL (nthD y2 6)
     let y4 := (y3.length : Int)
     l102o2 n89 l90 n91 n92 l94 n95 n96 y1 y3 y4 (asI (nthD y2 0)) (asI (nthD y2 1)) (asI (nthD y2 2)) (asI (nthD y2 3)) (asI (nthD y2 4)) (asS (nthD y2 5)) y3 (asI (nthD y2 7)) (asI (nthD y2 8))
      (fun (n178 : Int) (n179 : Int) (b180 : Bool) (v181 : SV) =>
       l102o0 n89 l90 n91 n92 l94 n95 q1 m n178 (w64 (n96 + (1 : Int))) (.d (.b y1)) (.d (.l y3)) (.d (.i .i64 y4)) (.d (.i .i64 n179)) (.d (.b b180)) (keepV [] v181)) KK n93 (0 : Int) v101 v102
    else
     q1 n93 n96 y1 (keepV [] v98) (keepV [] v99) (keepV [] v100) (keepV [] v101) (keepV [] v102)
/-- (*impl.Vol).named -/
def t102 (n1 : Int) (l2 : List (List D)) (n3 : Int) : Rs :=
  l102o0 n1 l2 n3 (0 : Int) l2 (l2.length : Int)
   (fun (n204 : Int) (n205 : Int) (b206 : Bool) (v207 : SV) (v208 : SV) (v209 : SV) (v210 : SV) (v211 : SV) =>
    some ([.one (.i .i64 n204)], [])) KK (0 : Int) (0 : Int) SV.undef SV.undef SV.undef SV.undef SV.undef SV.undef
def zr102 : List DV := [.one (.i .i64 0)]
def zo102 : List (List D) := []
def A102 : List TA := [.ptr [.i .i64, .l], .one (.i .i64)]
def v102 (vs : List Vr) : Rs := t102 (vI vs 0) (vL vs 1) (vI vs 2)
def g102 (xs : List DV) : Bool × List DV × List (List D) := gOf zr102 zo102 (argsT A102 v102 xs)
abbrev Y102 := Int → List (List D) → Int → Rs
def l103o0 (n10 : Int) (l11 : List (List D)) (n12 : Int) (l14 : List (List D)) (n15 : Int) (q1 : Int → Int → Bool → Rs) : Nat → Int → Int → SV → Rs
  | 0, _, _, _ => none
  | m + 1, n13, n16, v17 =>
    let y1 := decide (n16 < n15)
    if y1 then
     let y2 := l14.getD n16.toNat []
     chk (decide (0 ≤ n16) && decide (n16 < l14.length) && isRow z64 y2) <|
     l103o0 n10 l11 n12 l14 n15 q1 m (w64 (n13 + ((asS (nthD y2 5)).size : Int))) (w64 (n16 + (1 : Int))) (.d (.b y1))
    else
     q1 n13 n16 y1
/-- (*impl.Vol).total -/
def t103 (n1 : Int) (l2 : List (List D)) : Rs :=
  l103o0 n1 l2 (0 : Int) l2 (l2.length : Int)
   (fun (n29 : Int) (n30 : Int) (b31 : Bool) =>
    some ([.one (.i .i64 n29)], [])) KK (0 : Int) (0 : Int) SV.undef
def zr103 : List DV := [.one (.i .i64 0)]
def zo103 : List (List D) := []
def A103 : List TA := [.ptr [.i .i64, .l]]
def v103 (vs : List Vr) : Rs := t103 (vI vs 0) (vL vs 1)
def g103 (xs : List DV) : Bool × List DV × List (List D) := gOf zr103 zo103 (argsT A103 v103 xs)
abbrev Y103 := Int → List (List D) → Rs
def la135o0 (t100 : Y100) (t132 : Y132) (n14 : Int) (l15 : List (List D)) (n16 : Int) (n17 : Int) (n18 : Int) (n22 : Int) (l26 : List (List D)) (q1 : Int → SV → SV → Int → Bool → SV → Rs) : Nat → Int → SV → SV → Int → SV → SV → Rs
  | 0, _, _, _, _, _, _ => none
  | m + 1, n19, v20, v21, n23, v24, v25 =>
    let y1 := decide (n23 < n22)
    if y1 then
     chk (decide (0 ≤ n23) && decide (n23 < l26.length)) <|
     let y2 := l26.getD (n23.toNat) []
     chk (decide (1 ≤ y2.length) && isF z3 0 y2) <|
     let y3 := asI (nthD y2 0)
     let y4 := t132 n14 l15 y3
     chk (okR zr132 zo132 y4) <|
     let k1 := fun (n27 : Int) =>
      let y5 := asB (resC y4 0 0)
      let y6 := asS (resC y4 1 5)
      let y7 := !(!y5)
      la135o0 t100 t132 n14 l15 n16 n17 n18 n22 l26 q1 m n27 (.d (.i .i64 y3)) (SV.op y5 [.i .i64 (asI (resC y4 1 0)), .i .i64 (asI (resC y4 1 1)), .i .i64 (asI (resC y4 1 2)), .i .i64 (asI (resC y4 1 3)), .i .i64 (asI (resC y4 1 4)), .s y6, .l (asL (resC y4 1 6)), .i .i64 (asI (resC y4 1 7)), .i .i64 (asI (resC y4 1 8))]) (w64 (n23 + (1 : Int))) (.d (.b y1)) (.d (.b y7))
     let y8 := asB (resC y4 0 0)
     let y9 := !(!y8)
     if y9 then
      chk (y8) <|
      let y10 := asS (resC y4 1 5)
      k1 (w64 (n19 + (y10.size : Int)))
     else
      k1 n19
    else
     q1 n19 (keepV [832] v20) (keepV [832] v21) n23 y1 (keepV [832] v25)
/-- (*impl.Vol).usage -/
def ta135 (t100 : Y100) (t132 : Y132) (n1 : Int) (l2 : List (List D)) (n3 : Int) : Rs :=
  let y1 := t100 n1 l2 n3
  chk (okR zr100 zo100 y1) <|
  let y2 := asL (resC y1 0 0)
  la135o0 t100 t132 n1 l2 n3 (0 : Int) (0 : Int) (y2.length : Int) y2
   (fun (n47 : Int) (v48 : SV) (v49 : SV) (n50 : Int) (b51 : Bool) (v52 : SV) =>
    some ([.one (.i .i64 n47), .one (.i .i64 (y2.length : Int))], [])) KK (0 : Int) SV.undef SV.undef (0 : Int) SV.undef SV.undef
def t135 : Int → List (List D) → Int → Rs := ta135 t100 t132
def zr135 : List DV := [.one (.i .i64 0), .one (.i .i64 0)]
def zo135 : List (List D) := []
def A135 : List TA := [.ptr [.i .i64, .l], .one (.i .i64)]
def v135 (vs : List Vr) : Rs := t135 (vI vs 0) (vL vs 1) (vI vs 2)
def g135 (xs : List DV) : Bool × List DV × List (List D) := gOf zr135 zo135 (argsT A135 v135 xs)
abbrev Y135 := Int → List (List D) → Int → Rs
/-- (*impl.Vol).isOver -/
def ta105 (t135 : Y135) (n1 : Int) (l2 : List (List D)) (n3 : Int) (n4 : Int) (n5 : Int) (n6 : Int) (n7 : Int) (s8 : ByteArray) (l9 : List (List D)) (n10 : Int) (n11 : Int) : Rs :=
  let y1 := t135 n1 l2 n3
  chk (okR zr135 zo135 y1) <|
  some ([.one (.b (((decide (n10 > (0 : Int))) && (decide ((asI (resC y1 0 0)) > n10))) || ((decide (n11 > (0 : Int))) && (decide ((asI (resC y1 1 0)) > n11)))))], [])
def t105 : Int → List (List D) → Int → Int → Int → Int → Int → ByteArray → List (List D) → Int → Int → Rs := ta105 t135
def zr105 : List DV := [.one (.b false)]
def zo105 : List (List D) := []
def A105 : List TA := [.ptr [.i .i64, .l], .agg [.i .i64, .i .i64, .i .i64, .i .i64, .i .i64, .s, .l, .i .i64, .i .i64]]
def v105 (vs : List Vr) : Rs := t105 (vI vs 0) (vL vs 1) (vI vs 2) (vI vs 3) (vI vs 4) (vI vs 5) (vI vs 6) (vS vs 7) (vL vs 8) (vI vs 9) (vI vs 10)
def g105 (xs : List DV) : Bool × List DV × List (List D) := gOf zr105 zo105 (argsT A105 v105 xs)
abbrev Y105 := Int → List (List D) → Int → Int → Int → Int → Int → ByteArray → List (List D) → Int → Int → Rs
def la134o0 (t105 : Y105) (l10 : List (List D)) (n11 : Int) (l12 : List (List D)) (n13 : Int) (n15 : Int) (q1 : Int → Bool → Bool → Rs) (q2 : SV → Int → Bool → SV → Rs) : Nat → SV → Int → SV → SV → Rs
  | 0, _, _, _, _ => none
  | m + 1, v14, n16, v17, v18 =>
    let y1 := decide (n16 < n15)
    if y1 then
     let y2 := l10.getD n16.toNat []
     chk (decide (0 ≤ n16) && decide (n16 < l10.length) && isRow z64 y2) <|
     let y3 := t105 n11 l12 (asI (nthD y2 0)) (asI (nthD y2 1)) (asI (nthD y2 2)) (asI (nthD y2 3)) (asI (nthD y2 4)) (asS (nthD y2 5)) (asL (nthD y2 6)) (asI (nthD y2 7)) (asI (nthD y2 8))
     chk (okR zr105 zo105 y3) <|
     let y4 := asB (resC y3 0 0)
     if y4 then
      q1 n16 y1 y4
     else
      la134o0 t105 l10 n11 l12 n13 n15 q1 q2 m (.d (.i .i64 n16)) (w64 (n16 + (1 : Int))) (.d (.b y1)) (.d (.b y4))
    else
     q2 (keepV [] v14) n16 y1 (keepV [] v18)
/-- slices.IndexFunc[[]impl.Inode,impl.Inode] -/
def ta134 (t105 : Y105) (l1 : List (List D)) (n2 : Int) (l3 : List (List D)) : Rs :=
  la134o0 t105 l1 n2 l3 (0 : Int) (l1.length : Int)
   (fun (n35 : Int) (b36 : Bool) (b37 : Bool) =>
    some ([.one (.i .i64 n35)], []))
   (fun (v38 : SV) (n39 : Int) (b40 : Bool) (v41 : SV) =>
    some ([.one (.i .i64 (-1 : Int))], [])) KK SV.undef (0 : Int) SV.undef SV.undef
def t134 : List (List D) → Int → List (List D) → Rs := ta134 t105
def zr134 : List DV := [.one (.i .i64 0)]
def zo134 : List (List D) := []
def A134 : List TA := [.one (.l), .ptr [.i .i64, .l]]
def v134 (vs : List Vr) : Rs := t134 (vL vs 0) (vI vs 1) (vL vs 2)
def g134 (xs : List DV) : Bool × List DV × List (List D) := gOf zr134 zo134 (argsT A134 v134 xs)
abbrev Y134 := List (List D) → Int → List (List D) → Rs
/-- slices.ContainsFunc[[]impl.Inode,impl.Inode] -/
def ta104 (t134 : Y134) (l1 : List (List D)) (n2 : Int) (l3 : List (List D)) : Rs :=
  let y1 := t134 l1 n2 l3
  chk (okR zr134 zo134 y1) <|
  some ([.one (.b (decide ((asI (resC y1 0 0)) ≥ (0 : Int))))], [])
def t104 : List (List D) → Int → List (List D) → Rs := ta104 t134
def zr104 : List DV := [.one (.b false)]
def zo104 : List (List D) := []
def A104 : List TA := [.one (.l), .ptr [.i .i64, .l]]
def v104 (vs : List Vr) : Rs := t104 (vL vs 0) (vI vs 1) (vL vs 2)
def g104 (xs : List DV) : Bool × List DV × List (List D) := gOf zr104 zo104 (argsT A104 v104 xs)
abbrev Y104 := List (List D) → Int → List (List D) → Rs
def la66o4 (t63 : Y63) (t99 : Y99) (t100 : Y100) (t101 : Y101) (t102 : Y102) (t103 : Y103) (t104 : Y104) (n84 : Int) (l85 : List (List D)) (b86 : Bool) (b88 : Bool) (l89 : List (List D)) (n90 : Int) (n91 : Int) (b92 : Bool) (l94 : List (List D)) (n95 : Int) (n99 : Int) (l100 : List (List D)) (l101 : List (List D)) (q1 : SV → SV → Int → Bool → Bool → Int → Int → Int → Int → Int → ByteArray → List (List D) → Int → Int → Rs) (q2 : SV → SV → Int → Bool → SV → Rs) : Nat → SV → SV → Int → SV → SV → Rs
  | 0, _, _, _, _, _ => none
  | m + 1, v87, v93, n96, v97, v98 =>
    let y1 := decide (n96 < n95)
    if y1 then
     let y2 := l94.getD n96.toNat []
     chk (decide (0 ≤ n96) && decide (n96 < l94.length) && isRow z64 y2) <|
     let y3 := asI (nthD y2 0)
     let y4 := t101 l101 y3
     chk (okR zr101 zo101 y4) <|
     let y5 := t102 n99 l100 y3
     let y6 := !(asB (resC y4 0 0))
     let y7 := asI (nthD y2 1)
     let y8 := y7 == (2 : Int)
     chk ((okR zr102 zo102 y5) || !((!y6) && y8)) <|
     let y9 := y6 || (y8 && ((asI (resC y5 0 0)) != (1 : Int)))
     if y9 then
      q1 v87 v93 n96 y1 y9 y3 y7 (asI (nthD y2 2)) (asI (nthD y2 3)) (asI (nthD y2 4)) (asS (nthD y2 5)) (asL (nthD y2 6)) (asI (nthD y2 7)) (asI (nthD y2 8))
     else
      la66o4 t63 t99 t100 t101 t102 t103 t104 n84 l85 b86 b88 l89 n90 n91 b92 l94 n95 n99 l100 l101 q1 q2 m (keepV [64, 4608] v87) (keepV [64, 4608] v93) (w64 (n96 + (1 : Int))) (.d (.b y1)) (.d (.b y9))
    else
     q2 (keepV [64, 4608] v87) (keepV [64, 4608] v93) n96 y1 (keepV [64, 4608] v98)
def la66o1 (t63 : Y63) (t99 : Y99) (t100 : Y100) (t101 : Y101) (t102 : Y102) (t103 : Y103) (t104 : Y104) (n12 : Int) (l13 : List (List D)) (b14 : Bool) (b16 : Bool) (l17 : List (List D)) (n18 : Int) (n22 : Int) (l23 : List (List D)) (q1 : Int → Bool → Bool → Int → Int → Int → Int → Int → ByteArray → List (List D) → Int → Int → Rs) (q2 : SV → Int → Bool → SV → Rs) : Nat → SV → Int → SV → SV → Rs
  | 0, _, _, _, _ => none
  | m + 1, v15, n19, v20, v21 =>
    let y1 := decide (n19 < n18)
    if y1 then
     let y2 := l17.getD n19.toNat []
     chk (decide (0 ≤ n19) && decide (n19 < l17.length) && isRow z64 y2) <|
     let y3 := asI (nthD y2 0)
     let y4 := t63 y3 (1 : Int) (w64 (n22 - (1 : Int)))
     chk (okR zr63 zo63 y4) <|
     let y5 := w64 (n19 - (1 : Int))
     let y6 := l23.getD y5.toNat []
     let y7 := !(asB (resC y4 0 0))
     let y8 := decide (n19 > (0 : Int))
     chk ((decide (0 ≤ y5) && decide (y5 < l23.length) && isRow z64 y6) || !((!y7) && y8)) <|
     let y9 := asI (nthD y2 1)
     let y10 := asI (nthD y2 2)
     let y11 := asI (nthD y2 3)
     let y12 := asI (nthD y2 4)
     let y13 := asS (nthD y2 5)
     let y14 := asL (nthD y2 6)
     let y15 := asI (nthD y2 7)
     let y16 := asI (nthD y2 8)
     let y17 := t99 n22 l23 y3 y9 y10 y11 y12 y13 y14 y15 y16
     let y18 := y7 || (y8 && (decide ((asI (nthD y6 0)) ≥ y3)))
     chk ((okR zr99 zo99 y17) || !(!y18)) <|
     let y19 := y18 || (!(asB (resC y17 0 0)))
     if y19 then
      q1 n19 y1 y19 y3 y9 y10 y11 y12 y13 y14 y15 y16
     else
      la66o1 t63 t99 t100 t101 t102 t103 t104 n12 l13 b14 b16 l17 n18 n22 l23 q1 q2 m (.d (.i .i64 n19)) (w64 (n19 + (1 : Int))) (.d (.b y1)) (.d (.b y19))
    else
     q2 (keepV [64] v15) n19 y1 (keepV [64] v21)
/-- impl.VolOk -/
def ta66 (t63 : Y63) (t99 : Y99) (t100 : Y100) (t101 : Y101) (t102 : Y102) (t103 : Y103) (t104 : Y104) (n1 : Int) (l2 : List (List D)) : Rs :=
  let y1 := t63 n1 (2 : Int) (100000 : Int)
  chk (okR zr63 zo63 y1) <|
  let y2 := t63 (l2.length : Int) (1 : Int) (24 : Int)
  let y3 := !(asB (resC y1 0 0))
  chk ((okR zr63 zo63 y2) || !(!y3)) <|
  let y4 := l2.getD (0 : Int).toNat []
  let y5 := y3 || (!(asB (resC y2 0 0)))
  chk ((decide (0 ≤ (0 : Int)) && decide ((0 : Int) < l2.length) && isRow z64 y4) || !(!y5)) <|
  let y6 := l2.getD (0 : Int).toNat []
  let y7 := y5 || ((asI (nthD y4 0)) != (1 : Int))
  chk ((decide (0 ≤ (0 : Int)) && decide ((0 : Int) < l2.length) && isRow z64 y6) || !(!y7)) <|
  let y8 := y7 || ((asI (nthD y6 1)) != (2 : Int))
  if y8 then
   some ([.one (.b false)], [])
  else
   let y9 := (l2.length : Int)
   la66o1 t63 t99 t100 t101 t102 t103 t104 n1 l2 false y8 l2 y9 n1 l2
    (fun (n52 : Int) (b53 : Bool) (b54 : Bool) (n55 : Int) (n56 : Int) (n57 : Int) (n58 : Int) (n59 : Int) (s60 : ByteArray) (l61 : List (List D)) (n62 : Int) (n63 : Int) =>
     some ([.one (.b false)], []))
    (fun (v64 : SV) (n65 : Int) (b66 : Bool) (v67 : SV) =>
     let y10 := t100 n1 l2 (1 : Int)
     chk (okR zr100 zo100 y10) <|
     chk (decide (0 ≤ (1 : Int) ∧ (1 : Int) ≤ l2.length ∧ (l2.getD 0 z64).length = z64.length)) <|
     let y11 := l2.drop (1 : Int).toNat
     la66o4 t63 t99 t100 t101 t102 t103 t104 n1 l2 false y8 l2 y9 n65 b66 y11 (y11.length : Int) n1 l2 (asL (resC y10 0 0))
      (fun (v139 : SV) (v140 : SV) (n141 : Int) (b142 : Bool) (b143 : Bool) (n144 : Int) (n145 : Int) (n146 : Int) (n147 : Int) (n148 : Int) (s149 : ByteArray) (l150 : List (List D)) (n151 : Int) (n152 : Int) =>
       some ([.one (.b false)], []))
      (fun (v153 : SV) (v154 : SV) (n155 : Int) (b156 : Bool) (v157 : SV) =>
       chk (okR zr103 zo103 (t103 n1 l2)) <|
       let y12 := t104 l2 n1 l2
       let y13 := decide ((asI (resC (t103 n1 l2) 0 0)) ≤ (400 : Int))
       chk ((okR zr104 zo104 y12) || !y13) <|
       some ([.one (.b (y13 && (!(asB (resC y12 0 0)))))], [])) KK v64 v67 (0 : Int) SV.undef SV.undef) KK SV.undef (0 : Int) SV.undef SV.undef
def t66 : Int → List (List D) → Rs := ta66 t63 t99 t100 t101 t102 t103 t104
def zr66 : List DV := [.one (.b false)]
def zo66 : List (List D) := []
def A66 : List TA := [.agg [.i .i64, .l]]
def v66 (vs : List Vr) : Rs := t66 (vI vs 0) (vL vs 1)
def g66 (xs : List DV) : Bool × List DV × List (List D) := gOf zr66 zo66 (argsT A66 v66 xs)
abbrev Y66 := Int → List (List D) → Rs
def la25o0 (t63 : Y63) (t64 : Y64) (t65 : Y65) (t66 : Y66) (n20 : Int) (l21 : List (List D)) (n22 : Int) (l23 : List (List D)) (l24 : List (List D)) (b25 : Bool) (l27 : List (List D)) (n28 : Int) (n32 : Int) (l33 : List (List D)) (n34 : Int) (l35 : List (List D)) (l36 : List (List D)) (q1 : Int → Bool → Bool → Int → Int → Int → Int → ByteArray → Rs) (q2 : SV → Int → Bool → SV → Rs) : Nat → SV → Int → SV → SV → Rs
  | 0, _, _, _, _ => none
  | m + 1, v26, n29, v30, v31 =>
    let y1 := decide (n29 < n28)
    if y1 then
     let y2 := l27.getD n29.toNat []
     chk (decide (0 ≤ n29) && decide (n29 < l27.length) && isRow z81 y2) <|
     let y3 := asI (nthD y2 0)
     let y4 := t63 y3 (1 : Int) (3 : Int)
     chk (okR zr63 zo63 y4) <|
     let y5 := w64 (n29 - (1 : Int))
     let y6 := l36.getD y5.toNat []
     let y7 := !(asB (resC y4 0 0))
     let y8 := decide (n29 > (0 : Int))
     chk ((decide (0 ≤ y5) && decide (y5 < l36.length) && isRow z81 y6) || !((!y7) && y8)) <|
     let y9 := asI (nthD y2 1)
     let y10 := t63 y9 (1 : Int) (1000000 : Int)
     let y11 := y7 || (y8 && (decide ((asI (nthD y6 0)) ≥ y3)))
     chk ((okR zr63 zo63 y10) || !(!y11)) <|
     let y12 := asI (nthD y2 2)
     let y13 := t63 y12 (1 : Int) (100000 : Int)
     let y14 := y11 || (!(asB (resC y10 0 0)))
     chk ((okR zr63 zo63 y13) || !(!y14)) <|
     let y15 := asI (nthD y2 3)
     let y16 := asS (nthD y2 4)
     let y17 := t64 y15 y16
     let y18 := y14 || (!(asB (resC y13 0 0)))
     chk ((okR zr64 zo64 y17) || !(!y18)) <|
     let y19 := y18 || (!(asB (resC y17 0 0)))
     if y19 then
      q1 n29 y1 y19 y3 y9 y12 y15 y16
     else
      la25o0 t63 t64 t65 t66 n20 l21 n22 l23 l24 b25 l27 n28 n32 l33 n34 l35 l36 q1 q2 m (.d (.i .i64 n29)) (w64 (n29 + (1 : Int))) (.d (.b y1)) (.d (.b y19))
    else
     q2 (keepV [64] v26) n29 y1 (keepV [64] v31)
/-- impl.TenantOk -/
def ta25 (t63 : Y63) (t64 : Y64) (t65 : Y65) (t66 : Y66) (n1 : Int) (l2 : List (List D)) (n3 : Int) (l4 : List (List D)) (l5 : List (List D)) : Rs :=
  la25o0 t63 t64 t65 t66 n1 l2 n3 l4 l5 false l5 (l5.length : Int) n1 l2 n3 l4 l5
   (fun (n66 : Int) (b67 : Bool) (b68 : Bool) (n69 : Int) (n70 : Int) (n71 : Int) (n72 : Int) (s73 : ByteArray) =>
    some ([.one (.b false)], []))
   (fun (v74 : SV) (n75 : Int) (b76 : Bool) (v77 : SV) =>
    let y1 := t63 n3 (0 : Int) (30 : Int)
    chk (okR zr63 zo63 y1) <|
    let y2 := asB (resC y1 0 0)
    chk ((okR zr65 zo65 (t65 l4)) || !y2) <|
    let y3 := y2 && (asB (resC (t65 l4) 0 0))
    chk ((okR zr66 zo66 (t66 n1 l2)) || !y3) <|
    some ([.one (.b (y3 && (asB (resC (t66 n1 l2) 0 0))))], [])) KK SV.undef (0 : Int) SV.undef SV.undef
def t25 : Int → List (List D) → Int → List (List D) → List (List D) → Rs := ta25 t63 t64 t65 t66
def zr25 : List DV := [.one (.b false)]
def zo25 : List (List D) := []
def A25 : List TA := [.agg [.i .i64, .l, .i .i64, .l, .l]]
def v25 (vs : List Vr) : Rs := t25 (vI vs 0) (vL vs 1) (vI vs 2) (vL vs 3) (vL vs 4)
def g25 (xs : List DV) : Bool × List DV × List (List D) := gOf zr25 zo25 (argsT A25 v25 xs)
abbrev Y25 := Int → List (List D) → Int → List (List D) → List (List D) → Rs
def la29o0 (t25 : Y25) (l7 : List (List D)) (b8 : Bool) (l9 : List (List D)) (n10 : Int) (q1 : Int → Bool → Bool → Int → List (List D) → Int → List (List D) → List (List D) → Rs) (q2 : Int → Bool → SV → Rs) : Nat → Int → SV → SV → Rs
  | 0, _, _, _ => none
  | m + 1, n11, v12, v13 =>
    let y1 := decide (n11 < n10)
    if y1 then
     let y2 := l9.getD n11.toNat []
     chk (decide (0 ≤ n11) && decide (n11 < l9.length) && isRow z28 y2) <|
     let y3 := asI (nthD y2 0)
     let y4 := asL (nthD y2 1)
     let y5 := asI (nthD y2 2)
     let y6 := asL (nthD y2 3)
     let y7 := asL (nthD y2 4)
     let y8 := t25 y3 y4 y5 y6 y7
     chk (okR zr25 zo25 y8) <|
     let y9 := !(asB (resC y8 0 0))
     if y9 then
      q1 n11 y1 y9 y3 y4 y5 y6 y7
     else
      la29o0 t25 l7 b8 l9 n10 q1 q2 m (w64 (n11 + (1 : Int))) (.d (.b y1)) (.d (.b y9))
    else
     q2 n11 y1 (keepV [] v13)
/-- impl.StateOk -/
def ta29 (t25 : Y25) (l1 : List (List D)) : Rs :=
  la29o0 t25 l1 false l1 (l1.length : Int)
   (fun (n32 : Int) (b33 : Bool) (b34 : Bool) (n35 : Int) (l36 : List (List D)) (n37 : Int) (l38 : List (List D)) (l39 : List (List D)) =>
    some ([.one (.b false)], []))
   (fun (n40 : Int) (b41 : Bool) (v42 : SV) =>
    some ([.one (.b ((l1.length : Int) == (3 : Int)))], [])) KK (0 : Int) SV.undef SV.undef
def t29 : List (List D) → Rs := ta29 t25
def zr29 : List DV := [.one (.b false)]
def zo29 : List (List D) := []
def A29 : List TA := [.one (.l)]
def v29 (vs : List Vr) : Rs := t29 (vL vs 0)
def g29 (xs : List DV) : Bool × List DV × List (List D) := gOf zr29 zo29 (argsT A29 v29 xs)
abbrev Y29 := List (List D) → Rs
def la109o1 (t63 : Y63) (s7 : ByteArray) (b8 : Bool) (q1 : Int → Bool → List (List D) → Rs) : Nat → Int → SV → List (List D) → Rs
  | 0, _, _, _ => none
  | m + 1, n6, v9, l10 =>
    let y1 := decide (n6 > (127 : Int))
    if y1 then
     let y2 := ([[.i .u8 (IntKind.wrap .u8 (bitOr .i64 (bitAnd .i64 n6 (127 : Int)) (128 : Int)))]] : List (List D))
     chk ((flatR 1 y2) && decide (l10.length + y2.length ≤ lim)) <|
     la109o1 t63 s7 b8 q1 m (n6.fdiv (2 ^ (min (7 : Int).toNat (IntKind.bits .i64)))) (.d (.b y1)) (l10 ++ y2)
    else
     q1 n6 y1 l10
/-- impl.Var -/
def ta109 (t63 : Y63) (n1 : Int) : Rs :=
  let y1 := t63 n1 (0 : Int) (562949953421311 : Int)
  chk (okR zr63 zo63 y1) <|
  let y2 := !(asB (resC y1 0 0))
  if y2 then
   some ([.one (.s (⟨#[]⟩ : ByteArray))], [])
  else
   la109o1 t63 (⟨#[]⟩ : ByteArray) y2
    (fun (n19 : Int) (b20 : Bool) (l21 : List (List D)) =>
     let y3 := ([[.i .u8 (IntKind.wrap .u8 n19)]] : List (List D))
     chk ((flatR 1 y3) && decide (l21.length + y3.length ≤ lim)) <|
     let y4 := l21 ++ y3
     chk (isBytes y4) <|
     some ([.one (.s ⟨(bytesD y4).toArray⟩)], [])) KK n1 SV.undef ([] : List (List D))
def t109 : Int → Rs := ta109 t63
def zr109 : List DV := [.one (.s ⟨#[]⟩)]
def zo109 : List (List D) := []
def A109 : List TA := [.one (.i .i64)]
def v109 (vs : List Vr) : Rs := t109 (vI vs 0)
def g109 (xs : List DV) : Bool × List DV × List (List D) := gOf zr109 zo109 (argsT A109 v109 xs)
abbrev Y109 := Int → Rs
def la108o0 (t109 : Y109) (l8 : List (List D)) (s9 : ByteArray) (l12 : List (List D)) (n13 : Int) (q1 : ByteArray → SV → Int → Bool → Rs) : Nat → ByteArray → SV → Int → SV → Rs
  | 0, _, _, _, _ => none
  | m + 1, s10, v11, n14, v15 =>
    let y1 := decide (n14 < n13)
    if y1 then
     let y2 := l12.getD n14.toNat []
     chk (decide (0 ≤ n14) && decide (n14 < l12.length) && isRow z3 y2) <|
     let y3 := asI (nthD y2 0)
     let y4 := t109 y3
     chk (okR zr109 zo109 y4) <|
     let y5 := asS (resC y4 0 0)
     chk (decide (s10.size + y5.size ≤ lim)) <|
     la108o0 t109 l8 s9 l12 n13 q1 m (s10 ++ y5) (.d (.i .i64 y3)) (w64 (n14 + (1 : Int))) (.d (.b y1))
    else
     q1 s10 (keepV [] v11) n14 y1
/-- impl.vars -/
def ta108 (t109 : Y109) (l1 : List (List D)) : Rs :=
  la108o0 t109 l1 (⟨#[]⟩ : ByteArray) l1 (l1.length : Int)
   (fun (s28 : ByteArray) (v29 : SV) (n30 : Int) (b31 : Bool) =>
    some ([.one (.s s28)], [])) KK (⟨#[]⟩ : ByteArray) SV.undef (0 : Int) SV.undef
def t108 : List (List D) → Rs := ta108 t109
def zr108 : List DV := [.one (.s ⟨#[]⟩)]
def zo108 : List (List D) := []
def A108 : List TA := [.one (.l)]
def v108 (vs : List Vr) : Rs := t108 (vL vs 0)
def g108 (xs : List DV) : Bool × List DV × List (List D) := gOf zr108 zo108 (argsT A108 v108 xs)
abbrev Y108 := List (List D) → Rs
/-- impl.piece -/
def ta106 (t109 : Y109) (s1 : ByteArray) : Rs :=
  let y1 := t109 (s1.size : Int)
  chk (okR zr109 zo109 y1) <|
  let y2 := asS (resC y1 0 0)
  chk (decide (y2.size + s1.size ≤ lim)) <|
  some ([.one (.s (y2 ++ s1))], [])
def t106 : ByteArray → Rs := ta106 t109
def zr106 : List DV := [.one (.s ⟨#[]⟩)]
def zo106 : List (List D) := []
def A106 : List TA := [.one (.s)]
def v106 (vs : List Vr) : Rs := t106 (vS vs 0)
def g106 (xs : List DV) : Bool × List DV × List (List D) := gOf zr106 zo106 (argsT A106 v106 xs)
abbrev Y106 := ByteArray → Rs
def la107o2 (t106 : Y106) (t108 : Y108) (t109 : Y109) (n133 : Int) (l134 : List (List D)) (s135 : ByteArray) (l137 : List (List D)) (n138 : Int) (n139 : Int) (b140 : Bool) (l141 : List (List D)) (n142 : Int) (n145 : Int) (l146 : List (List D)) (n147 : Int) (n148 : Int) (n149 : Int) (n150 : Int) (n151 : Int) (s152 : ByteArray) (l153 : List (List D)) (n154 : Int) (n155 : Int) (l156 : List (List D)) (l157 : List (List D)) (q1 : ByteArray → Int → Bool → Rs) : Nat → ByteArray → Int → SV → Rs
  | 0, _, _, _ => none
  | m + 1, s136, n143, v144 =>
    let y1 := decide (n143 < n142)
    if y1 then
     let y2 := l141.getD n143.toNat []
     chk (decide (0 ≤ n143) && decide (n143 < l141.length) && isRow z129 y2) <|
     let y3 := t106 (asS (nthD y2 0))
     chk (okR zr106 zo106 y3) <|
     let y4 := asS (resC y3 0 0)
     chk (decide (s136.size + y4.size ≤ lim)) <|
     let y5 := t109 (asI (nthD y2 1))
     chk (okR zr109 zo109 y5) <|
     let y6 := s136 ++ y4
     let y7 := asS (resC y5 0 0)
     chk (decide (y6.size + y7.size ≤ lim)) <|
     la107o2 t106 t108 t109 n133 l134 s135 l137 n138 n139 b140 l141 n142 n145 l146 n147 n148 n149 n150 n151 s152 l153 n154 n155 l156 l157 q1 m (y6 ++ y7) (w64 (n143 + (1 : Int))) (.d (.b y1))
    else
     q1 s136 n143 y1
def la107o0 (t106 : Y106) (t108 : Y108) (t109 : Y109) (n93 : Int) (l94 : List (List D)) (s95 : ByteArray) (l97 : List (List D)) (n98 : Int) (n105 : Int) (l106 : List (List D)) (l107 : List (List D)) (q1 : ByteArray → Int → Bool → SV → SV → SV → SV → Rs) : Nat → ByteArray → Int → SV → SV → SV → SV → SV → Rs
  | 0, _, _, _, _, _, _, _ => none
  | m + 1, s96, n99, v100, v101, v102, v103, v104 =>
    let y1 := decide (n99 < n98)
    if y1 then
     let y2 := l97.getD n99.toNat []
     chk (decide (0 ≤ n99) && decide (n99 < l97.length) && isRow z64 y2) <|
     let y3 := asI (nthD y2 0)
     let y4 := asI (nthD y2 1)
     let y5 := asI (nthD y2 2)
     let y6 := asI (nthD y2 3)
     let y7 := asI (nthD y2 4)
     let y8 := asI (nthD y2 7)
     let y9 := asI (nthD y2 8)
     let y10 := ([[.i .i64 y3], [.i .i64 y4], [.i .i64 y5], [.i .i64 y6], [.i .i64 y7], [.i .i64 y8], [.i .i64 y9]] : List (List D))
     let y11 := t108 y10
     chk (okR zr108 zo108 y11) <|
     let y12 := asS (resC y11 0 0)
     chk (decide (s96.size + y12.size ≤ lim)) <|
     let y13 := asS (nthD y2 5)
     let y14 := t106 y13
     chk (okR zr106 zo106 y14) <|
     let y15 := s96 ++ y12
     let y16 := asS (resC y14 0 0)
     chk (decide (y15.size + y16.size ≤ lim)) <|
     let y17 := asL (nthD y2 6)
     let y18 := t109 (y17.length : Int)
     chk (okR zr109 zo109 y18) <|
     let y19 := y15 ++ y16
     let y20 := asS (resC y18 0 0)
     chk (decide (y19.size + y20.size ≤ lim)) <|
     let y21 := (y17.length : Int)
     la107o2 t106 t108 t109 n93 l94 s95 l97 n98 n99 y1 y17 y21 n105 l106 y3 y4 y5 y6 y7 y13 y17 y8 y9 l107 y10
      (fun (s186 : ByteArray) (n187 : Int) (b188 : Bool) =>
       la107o0 t106 t108 t109 n93 l94 s95 l97 n98 n105 l106 l107 q1 m s186 (w64 (n99 + (1 : Int))) (.d (.b y1)) (.d (.l y17)) (.d (.i .i64 y21)) (.d (.i .i64 n187)) (.d (.b b188))) KK (y19 ++ y20) (0 : Int) v104
    else
     q1 s96 n99 y1 (keepV [64, 832] v101) (keepV [64, 832] v102) (keepV [64, 832] v103) (keepV [64, 832] v104)
/-- impl.showVol -/
def ta107 (t106 : Y106) (t108 : Y108) (t109 : Y109) (n1 : Int) (l2 : List (List D)) : Rs :=
  let y1 := ([[.i .i64 n1], [.i .i64 (l2.length : Int)]] : List (List D))
  let y2 := t108 y1
  chk (okR zr108 zo108 y2) <|
  la107o0 t106 t108 t109 n1 l2 (⟨#[]⟩ : ByteArray) l2 (l2.length : Int) n1 l2 y1
   (fun (s211 : ByteArray) (n212 : Int) (b213 : Bool) (v214 : SV) (v215 : SV) (v216 : SV) (v217 : SV) =>
    some ([.one (.s s211)], [])) KK (asS (resC y2 0 0)) (0 : Int) SV.undef SV.undef SV.undef SV.undef SV.undef
def t107 : Int → List (List D) → Rs := ta107 t106 t108 t109
def zr107 : List DV := [.one (.s ⟨#[]⟩)]
def zo107 : List (List D) := []
def A107 : List TA := [.agg [.i .i64, .l]]
def v107 (vs : List Vr) : Rs := t107 (vI vs 0) (vL vs 1)
def g107 (xs : List DV) : Bool × List DV × List (List D) := gOf zr107 zo107 (argsT A107 v107 xs)
abbrev Y107 := Int → List (List D) → Rs
/-- impl.ShowResult -/
def ta110 (t64 : Y64) (t109 : Y109) (n1 : Int) (s2 : ByteArray) : Rs :=
  chk (okR zr64 zo64 (t64 n1 s2)) <|
  if !(asB (resC (t64 n1 s2) 0 0)) then
   some ([.one (.s (⟨#[]⟩ : ByteArray))], [])
  else
   chk (okR zr109 zo109 (t109 n1)) <|
   let y1 := asS (resC (t109 n1) 0 0)
   chk (decide (y1.size + s2.size ≤ lim)) <|
   some ([.one (.s (y1 ++ s2))], [])
def t110 : Int → ByteArray → Rs := ta110 t64 t109
def zr110 : List DV := [.one (.s ⟨#[]⟩)]
def zo110 : List (List D) := []
def A110 : List TA := [.agg [.i .i64, .s]]
def v110 (vs : List Vr) : Rs := t110 (vI vs 0) (vS vs 1)
def g110 (xs : List DV) : Bool × List DV × List (List D) := gOf zr110 zo110 (argsT A110 v110 xs)
abbrev Y110 := Int → ByteArray → Rs
def la71o2 (t106 : Y106) (t107 : Y107) (t108 : Y108) (t109 : Y109) (t110 : Y110) (n82 : Int) (l83 : List (List D)) (n84 : Int) (l85 : List (List D)) (l86 : List (List D)) (s87 : ByteArray) (l89 : List (List D)) (n90 : Int) (n91 : Int) (b92 : Bool) (l93 : List (List D)) (n94 : Int) (n97 : Int) (l98 : List (List D)) (n99 : Int) (l100 : List (List D)) (l101 : List (List D)) (l102 : List (List D)) (q1 : ByteArray → Int → Bool → Rs) : Nat → ByteArray → Int → SV → Rs
  | 0, _, _, _ => none
  | m + 1, s88, n95, v96 =>
    let y1 := decide (n95 < n94)
    if y1 then
     let y2 := l93.getD n95.toNat []
     chk (decide (0 ≤ n95) && decide (n95 < l93.length) && isRow z81 y2) <|
     let y3 := t108 ([[.i .i64 (asI (nthD y2 0))], [.i .i64 (asI (nthD y2 1))], [.i .i64 (asI (nthD y2 2))]] : List (List D))
     chk (okR zr108 zo108 y3) <|
     let y4 := asS (resC y3 0 0)
     chk (decide (s88.size + y4.size ≤ lim)) <|
     let y5 := t110 (asI (nthD y2 3)) (asS (nthD y2 4))
     chk (okR zr110 zo110 y5) <|
     let y6 := t106 (asS (resC y5 0 0))
     chk (okR zr106 zo106 y6) <|
     let y7 := s88 ++ y4
     let y8 := asS (resC y6 0 0)
     chk (decide (y7.size + y8.size ≤ lim)) <|
     la71o2 t106 t107 t108 t109 t110 n82 l83 n84 l85 l86 s87 l89 n90 n91 b92 l93 n94 n97 l98 n99 l100 l101 l102 q1 m (y7 ++ y8) (w64 (n95 + (1 : Int))) (.d (.b y1))
    else
     q1 s88 n95 y1
def la71o0 (t106 : Y106) (t107 : Y107) (t108 : Y108) (t109 : Y109) (t110 : Y110) (n22 : Int) (l23 : List (List D)) (n24 : Int) (l25 : List (List D)) (l26 : List (List D)) (s27 : ByteArray) (l29 : List (List D)) (n30 : Int) (n33 : Int) (l34 : List (List D)) (n35 : Int) (l36 : List (List D)) (l37 : List (List D)) (l38 : List (List D)) (q1 : ByteArray → Int → Bool → Rs) : Nat → ByteArray → Int → SV → Rs
  | 0, _, _, _ => none
  | m + 1, s28, n31, v32 =>
    let y1 := decide (n31 < n30)
    if y1 then
     let y2 := l29.getD n31.toNat []
     chk (decide (0 ≤ n31) && decide (n31 < l29.length) && isRow z90 y2) <|
     let y3 := t108 ([[.i .i64 (asI (nthD y2 0))], [.i .i64 (asI (nthD y2 1))], [.i .i64 (asI (nthD y2 2))], [.i .i64 (asI (nthD y2 3))], [.i .i64 (asI (nthD y2 4))]] : List (List D))
     chk (okR zr108 zo108 y3) <|
     let y4 := asS (resC y3 0 0)
     chk (decide (s28.size + y4.size ≤ lim)) <|
     la71o0 t106 t107 t108 t109 t110 n22 l23 n24 l25 l26 s27 l29 n30 n33 l34 n35 l36 l37 l38 q1 m (s28 ++ y4) (w64 (n31 + (1 : Int))) (.d (.b y1))
    else
     q1 s28 n31 y1
/-- impl.showTenant -/
def ta71 (t106 : Y106) (t107 : Y107) (t108 : Y108) (t109 : Y109) (t110 : Y110) (n1 : Int) (l2 : List (List D)) (n3 : Int) (l4 : List (List D)) (l5 : List (List D)) : Rs :=
  chk (okR zr107 zo107 (t107 n1 l2)) <|
  let y1 := t106 (asS (resC (t107 n1 l2) 0 0))
  chk (okR zr106 zo106 y1) <|
  let y2 := ([[.i .i64 n3], [.i .i64 (l4.length : Int)]] : List (List D))
  let y3 := t108 y2
  chk (okR zr108 zo108 y3) <|
  let y4 := asS (resC y1 0 0)
  let y5 := asS (resC y3 0 0)
  chk (decide (y4.size + y5.size ≤ lim)) <|
  let y6 := (l4.length : Int)
  la71o0 t106 t107 t108 t109 t110 n1 l2 n3 l4 l5 (⟨#[]⟩ : ByteArray) l4 y6 n1 l2 n3 l4 l5 y2
   (fun (s59 : ByteArray) (n60 : Int) (b61 : Bool) =>
    let y7 := t109 (l5.length : Int)
    chk (okR zr109 zo109 y7) <|
    let y8 := asS (resC y7 0 0)
    chk (decide (s59.size + y8.size ≤ lim)) <|
    la71o2 t106 t107 t108 t109 t110 n1 l2 n3 l4 l5 (⟨#[]⟩ : ByteArray) l4 y6 n60 b61 l5 (l5.length : Int) n1 l2 n3 l4 l5 y2
     (fun (s127 : ByteArray) (n128 : Int) (b129 : Bool) =>
      some ([.one (.s s127)], [])) KK (s59 ++ y8) (0 : Int) SV.undef) KK (y4 ++ y5) (0 : Int) SV.undef
def t71 : Int → List (List D) → Int → List (List D) → List (List D) → Rs := ta71 t106 t107 t108 t109 t110
def zr71 : List DV := [.one (.s ⟨#[]⟩)]
def zo71 : List (List D) := []
def A71 : List TA := [.agg [.i .i64, .l, .i .i64, .l, .l]]
def v71 (vs : List Vr) : Rs := t71 (vI vs 0) (vL vs 1) (vI vs 2) (vL vs 3) (vL vs 4)
def g71 (xs : List DV) : Bool × List DV × List (List D) := gOf zr71 zo71 (argsT A71 v71 xs)
abbrev Y71 := Int → List (List D) → Int → List (List D) → List (List D) → Rs
def la72o0 (t71 : Y71) (t106 : Y106) (l8 : List (List D)) (s9 : ByteArray) (l11 : List (List D)) (n12 : Int) (q1 : ByteArray → Int → Bool → Rs) : Nat → ByteArray → Int → SV → Rs
  | 0, _, _, _ => none
  | m + 1, s10, n13, v14 =>
    let y1 := decide (n13 < n12)
    if y1 then
     let y2 := l11.getD n13.toNat []
     chk (decide (0 ≤ n13) && decide (n13 < l11.length) && isRow z28 y2) <|
     let y3 := t71 (asI (nthD y2 0)) (asL (nthD y2 1)) (asI (nthD y2 2)) (asL (nthD y2 3)) (asL (nthD y2 4))
     chk (okR zr71 zo71 y3) <|
     let y4 := t106 (asS (resC y3 0 0))
     chk (okR zr106 zo106 y4) <|
     let y5 := asS (resC y4 0 0)
     chk (decide (s10.size + y5.size ≤ lim)) <|
     la72o0 t71 t106 l8 s9 l11 n12 q1 m (s10 ++ y5) (w64 (n13 + (1 : Int))) (.d (.b y1))
    else
     q1 s10 n13 y1
/-- impl.showState -/
def ta72 (t71 : Y71) (t106 : Y106) (l1 : List (List D)) : Rs :=
  la72o0 t71 t106 l1 (⟨#[]⟩ : ByteArray) l1 (l1.length : Int)
   (fun (s25 : ByteArray) (n26 : Int) (b27 : Bool) =>
    some ([.one (.s s25)], [])) KK (⟨#[]⟩ : ByteArray) (0 : Int) SV.undef
def t72 : List (List D) → Rs := ta72 t71 t106
def zr72 : List DV := [.one (.s ⟨#[]⟩)]
def zo72 : List (List D) := []
def A72 : List TA := [.one (.l)]
def v72 (vs : List Vr) : Rs := t72 (vL vs 0)
def g72 (xs : List DV) : Bool × List DV × List (List D) := gOf zr72 zo72 (argsT A72 v72 xs)
abbrev Y72 := List (List D) → Rs
/-- impl.ShowState -/
def ta33 (t29 : Y29) (t72 : Y72) (l1 : List (List D)) : Rs :=
  chk (okR zr29 zo29 (t29 l1)) <|
  if !(asB (resC (t29 l1) 0 0)) then
   some ([.one (.s (⟨#[]⟩ : ByteArray))], [])
  else
   chk (okR zr72 zo72 (t72 l1)) <|
   some ([.one (.s (asS (resC (t72 l1) 0 0)))], [])
def t33 : List (List D) → Rs := ta33 t29 t72
def zr33 : List DV := [.one (.s ⟨#[]⟩)]
def zo33 : List (List D) := []
def A33 : List TA := [.one (.l)]
def v33 (vs : List Vr) : Rs := t33 (vL vs 0)
def g33 (xs : List DV) : Bool × List DV × List (List D) := gOf zr33 zo33 (argsT A33 v33 xs)
abbrev Y33 := List (List D) → Rs
/-- laws.eqDirent -/
def t143 (s1 : ByteArray) (n2 : Int) (s3 : ByteArray) (n4 : Int) : Rs :=
  if !(s1.toList == s3.toList) then
   some ([.one (.b false)], [])
  else
   if n2 != n4 then
    some ([.one (.b false)], [])
   else
    some ([.one (.b true)], [])
def zr143 : List DV := [.one (.b false)]
def zo143 : List (List D) := []
def A143 : List TA := [.agg [.s, .i .i64], .agg [.s, .i .i64]]
def v143 (vs : List Vr) : Rs := t143 (vS vs 0) (vI vs 1) (vS vs 2) (vI vs 3)
def g143 (xs : List DV) : Bool × List DV × List (List D) := gOf zr143 zo143 (argsT A143 v143 xs)
abbrev Y143 := ByteArray → Int → ByteArray → Int → Rs
def la137o1 (t143 : Y143) (l8 : List (List D)) (l9 : List (List D)) (b10 : Bool) (b12 : Bool) (q1 : Int → Bool → Bool → Rs) (q2 : Int → Bool → SV → Rs) : Nat → Int → SV → SV → Rs
  | 0, _, _, _ => none
  | m + 1, n11, v13, v14 =>
    let y1 := decide (n11 < (l8.length : Int))
    if y1 then
     let y2 := l8.getD n11.toNat []
     chk (decide (0 ≤ n11) && decide (n11 < l8.length) && isRow z129 y2) <|
     let y3 := l9.getD n11.toNat []
     chk (decide (0 ≤ n11) && decide (n11 < l9.length) && isRow z129 y3) <|
     let y4 := t143 (asS (nthD y2 0)) (asI (nthD y2 1)) (asS (nthD y3 0)) (asI (nthD y3 1))
     chk (okR zr143 zo143 y4) <|
     let y5 := !(asB (resC y4 0 0))
     if y5 then
      q1 n11 y1 y5
     else
      la137o1 t143 l8 l9 b10 b12 q1 q2 m (w64 (n11 + (1 : Int))) (.d (.b y1)) (.d (.b y5))
    else
     q2 n11 y1 (keepV [] v14)
/-- laws.eqDirentS -/
def ta137 (t143 : Y143) (l1 : List (List D)) (l2 : List (List D)) : Rs :=
  let y1 := (l1.length : Int) != (l2.length : Int)
  if y1 then
   some ([.one (.b false)], [])
  else
   la137o1 t143 l1 l2 false y1
    (fun (n28 : Int) (b29 : Bool) (b30 : Bool) =>
     some ([.one (.b false)], []))
    (fun (n31 : Int) (b32 : Bool) (v33 : SV) =>
     some ([.one (.b true)], [])) KK (0 : Int) SV.undef SV.undef
def t137 : List (List D) → List (List D) → Rs := ta137 t143
def zr137 : List DV := [.one (.b false)]
def zo137 : List (List D) := []
def A137 : List TA := [.one (.l), .one (.l)]
def v137 (vs : List Vr) : Rs := t137 (vL vs 0) (vL vs 1)
def g137 (xs : List DV) : Bool × List DV × List (List D) := gOf zr137 zo137 (argsT A137 v137 xs)
abbrev Y137 := List (List D) → List (List D) → Rs
/-- laws.eqInode -/
def ta120 (t137 : Y137) (n1 : Int) (n2 : Int) (n3 : Int) (n4 : Int) (n5 : Int) (s6 : ByteArray) (l7 : List (List D)) (n8 : Int) (n9 : Int) (n10 : Int) (n11 : Int) (n12 : Int) (n13 : Int) (n14 : Int) (s15 : ByteArray) (l16 : List (List D)) (n17 : Int) (n18 : Int) : Rs :=
  if n1 != n10 then
   some ([.one (.b false)], [])
  else
   if n2 != n11 then
    some ([.one (.b false)], [])
   else
    if n3 != n12 then
     some ([.one (.b false)], [])
    else
     if n4 != n13 then
      some ([.one (.b false)], [])
     else
      if n5 != n14 then
       some ([.one (.b false)], [])
      else
       if !(s6.toList == s15.toList) then
        some ([.one (.b false)], [])
       else
        chk (okR zr137 zo137 (t137 l7 l16)) <|
        if !(asB (resC (t137 l7 l16) 0 0)) then
         some ([.one (.b false)], [])
        else
         if n8 != n17 then
          some ([.one (.b false)], [])
         else
          if n9 != n18 then
           some ([.one (.b false)], [])
          else
           some ([.one (.b true)], [])
def t120 : Int → Int → Int → Int → Int → ByteArray → List (List D) → Int → Int → Int → Int → Int → Int → Int → ByteArray → List (List D) → Int → Int → Rs := ta120 t137
def zr120 : List DV := [.one (.b false)]
def zo120 : List (List D) := []
def A120 : List TA := [.agg [.i .i64, .i .i64, .i .i64, .i .i64, .i .i64, .s, .l, .i .i64, .i .i64], .agg [.i .i64, .i .i64, .i .i64, .i .i64, .i .i64, .s, .l, .i .i64, .i .i64]]
def v120 (vs : List Vr) : Rs := t120 (vI vs 0) (vI vs 1) (vI vs 2) (vI vs 3) (vI vs 4) (vS vs 5) (vL vs 6) (vI vs 7) (vI vs 8) (vI vs 9) (vI vs 10) (vI vs 11) (vI vs 12) (vI vs 13) (vS vs 14) (vL vs 15) (vI vs 16) (vI vs 17)
def g120 (xs : List DV) : Bool × List DV × List (List D) := gOf zr120 zo120 (argsT A120 v120 xs)
abbrev Y120 := Int → Int → Int → Int → Int → ByteArray → List (List D) → Int → Int → Int → Int → Int → Int → Int → ByteArray → List (List D) → Int → Int → Rs
def la83o1 (t120 : Y120) (l8 : List (List D)) (l9 : List (List D)) (b10 : Bool) (b12 : Bool) (q1 : Int → Bool → Bool → Rs) (q2 : Int → Bool → SV → Rs) : Nat → Int → SV → SV → Rs
  | 0, _, _, _ => none
  | m + 1, n11, v13, v14 =>
    let y1 := decide (n11 < (l8.length : Int))
    if y1 then
     let y2 := l8.getD n11.toNat []
     chk (decide (0 ≤ n11) && decide (n11 < l8.length) && isRow z64 y2) <|
     let y3 := l9.getD n11.toNat []
     chk (decide (0 ≤ n11) && decide (n11 < l9.length) && isRow z64 y3) <|
     let y4 := t120 (asI (nthD y2 0)) (asI (nthD y2 1)) (asI (nthD y2 2)) (asI (nthD y2 3)) (asI (nthD y2 4)) (asS (nthD y2 5)) (asL (nthD y2 6)) (asI (nthD y2 7)) (asI (nthD y2 8)) (asI (nthD y3 0)) (asI (nthD y3 1)) (asI (nthD y3 2)) (asI (nthD y3 3)) (asI (nthD y3 4)) (asS (nthD y3 5)) (asL (nthD y3 6)) (asI (nthD y3 7)) (asI (nthD y3 8))
     chk (okR zr120 zo120 y4) <|
     let y5 := !(asB (resC y4 0 0))
     if y5 then
      q1 n11 y1 y5
     else
      la83o1 t120 l8 l9 b10 b12 q1 q2 m (w64 (n11 + (1 : Int))) (.d (.b y1)) (.d (.b y5))
    else
     q2 n11 y1 (keepV [] v14)
/-- laws.eqInodeS -/
def ta83 (t120 : Y120) (l1 : List (List D)) (l2 : List (List D)) : Rs :=
  let y1 := (l1.length : Int) != (l2.length : Int)
  if y1 then
   some ([.one (.b false)], [])
  else
   la83o1 t120 l1 l2 false y1
    (fun (n28 : Int) (b29 : Bool) (b30 : Bool) =>
     some ([.one (.b false)], []))
    (fun (n31 : Int) (b32 : Bool) (v33 : SV) =>
     some ([.one (.b true)], [])) KK (0 : Int) SV.undef SV.undef
def t83 : List (List D) → List (List D) → Rs := ta83 t120
def zr83 : List DV := [.one (.b false)]
def zo83 : List (List D) := []
def A83 : List TA := [.one (.l), .one (.l)]
def v83 (vs : List Vr) : Rs := t83 (vL vs 0) (vL vs 1)
def g83 (xs : List DV) : Bool × List DV × List (List D) := gOf zr83 zo83 (argsT A83 v83 xs)
abbrev Y83 := List (List D) → List (List D) → Rs
/-- laws.eqVol -/
def ta42 (t83 : Y83) (n1 : Int) (l2 : List (List D)) (n3 : Int) (l4 : List (List D)) : Rs :=
  if n1 != n3 then
   some ([.one (.b false)], [])
  else
   chk (okR zr83 zo83 (t83 l2 l4)) <|
   if !(asB (resC (t83 l2 l4) 0 0)) then
    some ([.one (.b false)], [])
   else
    some ([.one (.b true)], [])
def t42 : Int → List (List D) → Int → List (List D) → Rs := ta42 t83
def zr42 : List DV := [.one (.b false)]
def zo42 : List (List D) := []
def A42 : List TA := [.agg [.i .i64, .l], .agg [.i .i64, .l]]
def v42 (vs : List Vr) : Rs := t42 (vI vs 0) (vL vs 1) (vI vs 2) (vL vs 3)
def g42 (xs : List DV) : Bool × List DV × List (List D) := gOf zr42 zo42 (argsT A42 v42 xs)
abbrev Y42 := Int → List (List D) → Int → List (List D) → Rs
/-- laws.eqNote -/
def t84 (n1 : Int) (n2 : Int) (n3 : Int) (n4 : Int) (n5 : Int) (n6 : Int) (n7 : Int) (n8 : Int) (n9 : Int) (n10 : Int) : Rs :=
  if n1 != n6 then
   some ([.one (.b false)], [])
  else
   if n2 != n7 then
    some ([.one (.b false)], [])
   else
    if n3 != n8 then
     some ([.one (.b false)], [])
    else
     if n4 != n9 then
      some ([.one (.b false)], [])
     else
      if n5 != n10 then
       some ([.one (.b false)], [])
      else
       some ([.one (.b true)], [])
def zr84 : List DV := [.one (.b false)]
def zo84 : List (List D) := []
def A84 : List TA := [.agg [.i .i64, .i .i64, .i .i64, .i .i64, .i .i64], .agg [.i .i64, .i .i64, .i .i64, .i .i64, .i .i64]]
def v84 (vs : List Vr) : Rs := t84 (vI vs 0) (vI vs 1) (vI vs 2) (vI vs 3) (vI vs 4) (vI vs 5) (vI vs 6) (vI vs 7) (vI vs 8) (vI vs 9)
def g84 (xs : List DV) : Bool × List DV × List (List D) := gOf zr84 zo84 (argsT A84 v84 xs)
abbrev Y84 := Int → Int → Int → Int → Int → Int → Int → Int → Int → Int → Rs
def la43o1 (t84 : Y84) (l8 : List (List D)) (l9 : List (List D)) (b10 : Bool) (b12 : Bool) (q1 : Int → Bool → Bool → Rs) (q2 : Int → Bool → SV → Rs) : Nat → Int → SV → SV → Rs
  | 0, _, _, _ => none
  | m + 1, n11, v13, v14 =>
    let y1 := decide (n11 < (l8.length : Int))
    if y1 then
     let y2 := l8.getD n11.toNat []
     chk (decide (0 ≤ n11) && decide (n11 < l8.length) && isRow z90 y2) <|
     let y3 := l9.getD n11.toNat []
     chk (decide (0 ≤ n11) && decide (n11 < l9.length) && isRow z90 y3) <|
     let y4 := t84 (asI (nthD y2 0)) (asI (nthD y2 1)) (asI (nthD y2 2)) (asI (nthD y2 3)) (asI (nthD y2 4)) (asI (nthD y3 0)) (asI (nthD y3 1)) (asI (nthD y3 2)) (asI (nthD y3 3)) (asI (nthD y3 4))
     chk (okR zr84 zo84 y4) <|
     let y5 := !(asB (resC y4 0 0))
     if y5 then
      q1 n11 y1 y5
     else
      la43o1 t84 l8 l9 b10 b12 q1 q2 m (w64 (n11 + (1 : Int))) (.d (.b y1)) (.d (.b y5))
    else
     q2 n11 y1 (keepV [] v14)
/-- laws.eqNoteS -/
def ta43 (t84 : Y84) (l1 : List (List D)) (l2 : List (List D)) : Rs :=
  let y1 := (l1.length : Int) != (l2.length : Int)
  if y1 then
   some ([.one (.b false)], [])
  else
   la43o1 t84 l1 l2 false y1
    (fun (n28 : Int) (b29 : Bool) (b30 : Bool) =>
     some ([.one (.b false)], []))
    (fun (n31 : Int) (b32 : Bool) (v33 : SV) =>
     some ([.one (.b true)], [])) KK (0 : Int) SV.undef SV.undef
def t43 : List (List D) → List (List D) → Rs := ta43 t84
def zr43 : List DV := [.one (.b false)]
def zo43 : List (List D) := []
def A43 : List TA := [.one (.l), .one (.l)]
def v43 (vs : List Vr) : Rs := t43 (vL vs 0) (vL vs 1)
def g43 (xs : List DV) : Bool × List DV × List (List D) := gOf zr43 zo43 (argsT A43 v43 xs)
abbrev Y43 := List (List D) → List (List D) → Rs
/-- laws.eqResult -/
def t121 (n1 : Int) (s2 : ByteArray) (n3 : Int) (s4 : ByteArray) : Rs :=
  if n1 != n3 then
   some ([.one (.b false)], [])
  else
   if !(s2.toList == s4.toList) then
    some ([.one (.b false)], [])
   else
    some ([.one (.b true)], [])
def zr121 : List DV := [.one (.b false)]
def zo121 : List (List D) := []
def A121 : List TA := [.agg [.i .i64, .s], .agg [.i .i64, .s]]
def v121 (vs : List Vr) : Rs := t121 (vI vs 0) (vS vs 1) (vI vs 2) (vS vs 3)
def g121 (xs : List DV) : Bool × List DV × List (List D) := gOf zr121 zo121 (argsT A121 v121 xs)
abbrev Y121 := Int → ByteArray → Int → ByteArray → Rs
/-- laws.eqSession -/
def ta85 (t121 : Y121) (n1 : Int) (n2 : Int) (n3 : Int) (n4 : Int) (s5 : ByteArray) (n6 : Int) (n7 : Int) (n8 : Int) (n9 : Int) (s10 : ByteArray) : Rs :=
  if n1 != n6 then
   some ([.one (.b false)], [])
  else
   if n2 != n7 then
    some ([.one (.b false)], [])
   else
    if n3 != n8 then
     some ([.one (.b false)], [])
    else
     let y1 := t121 n4 s5 n9 s10
     chk (okR zr121 zo121 y1) <|
     if !(asB (resC y1 0 0)) then
      some ([.one (.b false)], [])
     else
      some ([.one (.b true)], [])
def t85 : Int → Int → Int → Int → ByteArray → Int → Int → Int → Int → ByteArray → Rs := ta85 t121
def zr85 : List DV := [.one (.b false)]
def zo85 : List (List D) := []
def A85 : List TA := [.agg [.i .i64, .i .i64, .i .i64, .i .i64, .s], .agg [.i .i64, .i .i64, .i .i64, .i .i64, .s]]
def v85 (vs : List Vr) : Rs := t85 (vI vs 0) (vI vs 1) (vI vs 2) (vI vs 3) (vS vs 4) (vI vs 5) (vI vs 6) (vI vs 7) (vI vs 8) (vS vs 9)
def g85 (xs : List DV) : Bool × List DV × List (List D) := gOf zr85 zo85 (argsT A85 v85 xs)
abbrev Y85 := Int → Int → Int → Int → ByteArray → Int → Int → Int → Int → ByteArray → Rs
def la44o1 (t85 : Y85) (l8 : List (List D)) (l9 : List (List D)) (b10 : Bool) (b12 : Bool) (q1 : Int → Bool → Bool → Rs) (q2 : Int → Bool → SV → Rs) : Nat → Int → SV → SV → Rs
  | 0, _, _, _ => none
  | m + 1, n11, v13, v14 =>
    let y1 := decide (n11 < (l8.length : Int))
    if y1 then
     let y2 := l8.getD n11.toNat []
     chk (decide (0 ≤ n11) && decide (n11 < l8.length) && isRow z81 y2) <|
     let y3 := l9.getD n11.toNat []
     chk (decide (0 ≤ n11) && decide (n11 < l9.length) && isRow z81 y3) <|
     let y4 := t85 (asI (nthD y2 0)) (asI (nthD y2 1)) (asI (nthD y2 2)) (asI (nthD y2 3)) (asS (nthD y2 4)) (asI (nthD y3 0)) (asI (nthD y3 1)) (asI (nthD y3 2)) (asI (nthD y3 3)) (asS (nthD y3 4))
     chk (okR zr85 zo85 y4) <|
     let y5 := !(asB (resC y4 0 0))
     if y5 then
      q1 n11 y1 y5
     else
      la44o1 t85 l8 l9 b10 b12 q1 q2 m (w64 (n11 + (1 : Int))) (.d (.b y1)) (.d (.b y5))
    else
     q2 n11 y1 (keepV [] v14)
/-- laws.eqSessionS -/
def ta44 (t85 : Y85) (l1 : List (List D)) (l2 : List (List D)) : Rs :=
  let y1 := (l1.length : Int) != (l2.length : Int)
  if y1 then
   some ([.one (.b false)], [])
  else
   la44o1 t85 l1 l2 false y1
    (fun (n28 : Int) (b29 : Bool) (b30 : Bool) =>
     some ([.one (.b false)], []))
    (fun (n31 : Int) (b32 : Bool) (v33 : SV) =>
     some ([.one (.b true)], [])) KK (0 : Int) SV.undef SV.undef
def t44 : List (List D) → List (List D) → Rs := ta44 t85
def zr44 : List DV := [.one (.b false)]
def zo44 : List (List D) := []
def A44 : List TA := [.one (.l), .one (.l)]
def v44 (vs : List Vr) : Rs := t44 (vL vs 0) (vL vs 1)
def g44 (xs : List DV) : Bool × List DV × List (List D) := gOf zr44 zo44 (argsT A44 v44 xs)
abbrev Y44 := List (List D) → List (List D) → Rs
/-- laws.eqTenant -/
def ta14 (t42 : Y42) (t43 : Y43) (t44 : Y44) (n1 : Int) (l2 : List (List D)) (n3 : Int) (l4 : List (List D)) (l5 : List (List D)) (n6 : Int) (l7 : List (List D)) (n8 : Int) (l9 : List (List D)) (l10 : List (List D)) : Rs :=
  let y1 := t42 n1 l2 n6 l7
  chk (okR zr42 zo42 y1) <|
  if !(asB (resC y1 0 0)) then
   some ([.one (.b false)], [])
  else
   if n3 != n8 then
    some ([.one (.b false)], [])
   else
    chk (okR zr43 zo43 (t43 l4 l9)) <|
    if !(asB (resC (t43 l4 l9) 0 0)) then
     some ([.one (.b false)], [])
    else
     chk (okR zr44 zo44 (t44 l5 l10)) <|
     if !(asB (resC (t44 l5 l10) 0 0)) then
      some ([.one (.b false)], [])
     else
      some ([.one (.b true)], [])
def t14 : Int → List (List D) → Int → List (List D) → List (List D) → Int → List (List D) → Int → List (List D) → List (List D) → Rs := ta14 t42 t43 t44
def zr14 : List DV := [.one (.b false)]
def zo14 : List (List D) := []
def A14 : List TA := [.agg [.i .i64, .l, .i .i64, .l, .l], .agg [.i .i64, .l, .i .i64, .l, .l]]
def v14 (vs : List Vr) : Rs := t14 (vI vs 0) (vL vs 1) (vI vs 2) (vL vs 3) (vL vs 4) (vI vs 5) (vL vs 6) (vI vs 7) (vL vs 8) (vL vs 9)
def g14 (xs : List DV) : Bool × List DV × List (List D) := gOf zr14 zo14 (argsT A14 v14 xs)
abbrev Y14 := Int → List (List D) → Int → List (List D) → List (List D) → Int → List (List D) → Int → List (List D) → List (List D) → Rs
def la19o1 (t14 : Y14) (l8 : List (List D)) (l9 : List (List D)) (b10 : Bool) (b12 : Bool) (q1 : Int → Bool → Bool → Rs) (q2 : Int → Bool → SV → Rs) : Nat → Int → SV → SV → Rs
  | 0, _, _, _ => none
  | m + 1, n11, v13, v14 =>
    let y1 := decide (n11 < (l8.length : Int))
    if y1 then
     let y2 := l8.getD n11.toNat []
     chk (decide (0 ≤ n11) && decide (n11 < l8.length) && isRow z28 y2) <|
     let y3 := l9.getD n11.toNat []
     chk (decide (0 ≤ n11) && decide (n11 < l9.length) && isRow z28 y3) <|
     let y4 := t14 (asI (nthD y2 0)) (asL (nthD y2 1)) (asI (nthD y2 2)) (asL (nthD y2 3)) (asL (nthD y2 4)) (asI (nthD y3 0)) (asL (nthD y3 1)) (asI (nthD y3 2)) (asL (nthD y3 3)) (asL (nthD y3 4))
     chk (okR zr14 zo14 y4) <|
     let y5 := !(asB (resC y4 0 0))
     if y5 then
      q1 n11 y1 y5
     else
      la19o1 t14 l8 l9 b10 b12 q1 q2 m (w64 (n11 + (1 : Int))) (.d (.b y1)) (.d (.b y5))
    else
     q2 n11 y1 (keepV [] v14)
/-- laws.eqTenantS -/
def ta19 (t14 : Y14) (l1 : List (List D)) (l2 : List (List D)) : Rs :=
  let y1 := (l1.length : Int) != (l2.length : Int)
  if y1 then
   some ([.one (.b false)], [])
  else
   la19o1 t14 l1 l2 false y1
    (fun (n28 : Int) (b29 : Bool) (b30 : Bool) =>
     some ([.one (.b false)], []))
    (fun (n31 : Int) (b32 : Bool) (v33 : SV) =>
     some ([.one (.b true)], [])) KK (0 : Int) SV.undef SV.undef
def t19 : List (List D) → List (List D) → Rs := ta19 t14
def zr19 : List DV := [.one (.b false)]
def zo19 : List (List D) := []
def A19 : List TA := [.one (.l), .one (.l)]
def v19 (vs : List Vr) : Rs := t19 (vL vs 0) (vL vs 1)
def g19 (xs : List DV) : Bool × List DV × List (List D) := gOf zr19 zo19 (argsT A19 v19 xs)
abbrev Y19 := List (List D) → List (List D) → Rs
/-- laws.FnExactShowState -/
def ta8 (t19 : Y19) (t26 : Y26) (t28 : Y28) (t32 : Y32) (t33 : Y33) (l1 : List (List D)) : Rs :=
  let y1 := t26 l1 (1048576 : Int)
  chk (okR zr26 zo26 y1) <|
  if decide ((asI (resC y1 0 0)) < (0 : Int)) then
   some ([.one (.b true)], [])
  else
   chk (okR zr28 zo28 (t28 l1)) <|
   let y2 := t32 (asL (resC (t28 l1) 0 0))
   chk (okR zr32 zo32 y2) <|
   chk (okR zr28 zo28 (t28 l1)) <|
   let y3 := asL (resC (t28 l1) 0 0)
   let y4 := t33 y3
   chk (okR zr33 zo33 y4) <|
   if !((asS (resC y4 0 0)).toList == (asS (resC y2 0 0)).toList) then
    some ([.one (.b false)], [])
   else
    chk (okR zr28 zo28 (t28 l1)) <|
    let y5 := t19 y3 (asL (resC (t28 l1) 0 0))
    chk (okR zr19 zo19 y5) <|
    if !(asB (resC y5 0 0)) then
     some ([.one (.b false)], [])
    else
     some ([.one (.b true)], [])
def t8 : List (List D) → Rs := ta8 t19 t26 t28 t32 t33
def zr8 : List DV := [.one (.b false)]
def zo8 : List (List D) := []
def A8 : List TA := [.one (.l)]
def v8 (vs : List Vr) : Rs := t8 (vL vs 0)
def g8 (xs : List DV) : Bool × List DV × List (List D) := gOf zr8 zo8 (argsT A8 v8 xs)
end
end Go.Den.L8
