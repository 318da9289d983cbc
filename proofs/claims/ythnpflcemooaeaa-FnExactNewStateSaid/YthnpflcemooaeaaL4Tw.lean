/- What the functions come to, as plain Lean. Printed by tw.py. -/
import Derived.Test.YthnpflcemooaeaaDm8
set_option linter.unusedVariables false
namespace Go.Den.L4
open Go
noncomputable section
/-- The rounds that a loop is given: 2 ^ 64; so laid that nothing unfolds it. -/
noncomputable def KK : Nat := Classical.choose (⟨2 ^ 64, rfl⟩ : ∃ n : Nat, n = 2 ^ 64)
def w64 (x : Int) : Int := IntKind.wrap .i64 x
def chk (b : Bool) (x : Rs) : Rs := if b then x else none
def bitAnd (k : IntKind) (a b : Int) : Int := k.wrap (BitVec.ofInt k.bits a &&& BitVec.ofInt k.bits b).toNat
def bitOr (k : IntKind) (a b : Int) : Int := k.wrap (BitVec.ofInt k.bits a ||| BitVec.ofInt k.bits b).toNat
def bitXor (k : IntKind) (a b : Int) : Int := k.wrap (BitVec.ofInt k.bits a ^^^ BitVec.ofInt k.bits b).toNat
def stR (xs : List (List D)) (i off : Nat) (ys : List D) : List (List D) := xs.modify i fun r => r.take off ++ ys ++ r.drop (off + ys.length)
def z28 : List D := [.i .i64 0, .l [], .i .i64 0, .l [], .l []]
def z64 : List D := [.i .i64 0, .i .i64 0, .i .i64 0, .i .i64 0, .i .i64 0, .s ⟨#[]⟩, .l [], .i .i64 0, .i .i64 0]
def z81 : List D := [.i .i64 0, .i .i64 0, .i .i64 0, .i .i64 0, .s ⟨#[]⟩]
def z90 : List D := [.i .i64 0, .i .i64 0, .i .i64 0, .i .i64 0, .i .i64 0]
def z129 : List D := [.s ⟨#[]⟩, .i .i64 0]
/-- spec.NewVol -/
def t40 : Rs :=
  some ([.agg [.i .i64 (2 : Int), .l ([[.i .i64 (1 : Int), .i .i64 (2 : Int), .i .i64 (493 : Int), .i .i64 (0 : Int), .i .i64 (0 : Int), .s (⟨#[]⟩ : ByteArray), .l ([] : List (List D)), .i .i64 (0 : Int), .i .i64 (0 : Int)]] : List (List D))]], [])
def zr40 : List DV := [.agg [.i .i64 0, .l []]]
def zo40 : List (List D) := []
def A40 : List TA := []
def v40 (vs : List Vr) : Rs := t40
def g40 (xs : List DV) : Bool × List DV × List (List D) := gOf zr40 zo40 (argsT A40 v40 xs)
/-- spec.NewTenant -/
def t12 : Rs :=
  chk (okR zr40 zo40 t40) <|
  let y1 := asL (resC t40 0 1)
  chk (decide (0 ≤ (0 : Int)) && decide ((0 : Int) < y1.length)) <|
  let y2 := (0 : Int).toNat
  chk (decide (3 ≤ 9 ∧ y2 < y1.length)) <|
  some ([.agg [.i .i64 (asI (resC t40 0 0)), .l (stR y1 y2 2 [.i .i64 (1023 : Int)]), .i .i64 (30 : Int), .l ([] : List (List D)), .l ([] : List (List D))]], [])
def zr12 : List DV := [.agg [.i .i64 0, .l [], .i .i64 0, .l [], .l []]]
def zo12 : List (List D) := []
def A12 : List TA := []
def v12 (vs : List Vr) : Rs := t12
def g12 (xs : List DV) : Bool × List DV × List (List D) := gOf zr12 zo12 (argsT A12 v12 xs)
def l17o0 (q1 : Int → Bool → List (List D) → Rs) : Nat → Int → SV → List (List D) → Rs
  | 0, _, _, _ => none
  | m + 1, n3, v4, l5 =>
    let y1 := decide (n3 < (3 : Int))
    if y1 then
     chk (okR zr12 zo12 t12) <|
     let y2 := ([[.i .i64 (asI (resC t12 0 0)), .l (asL (resC t12 0 1)), .i .i64 (asI (resC t12 0 2)), .l (asL (resC t12 0 3)), .l (asL (resC t12 0 4))]] : List (List D))
     chk (true && decide (l5.length + y2.length ≤ lim)) <|
     l17o0 q1 m (w64 (n3 + (1 : Int))) (.d (.b y1)) (l5 ++ y2)
    else
     q1 n3 y1 l5
/-- spec.NewState -/
def t17 : Rs :=
  l17o0
   (fun (n12 : Int) (b13 : Bool) (l14 : List (List D)) =>
    some ([.one (.l l14)], [])) KK (0 : Int) SV.undef ([] : List (List D))
def zr17 : List DV := [.one (.l [])]
def zo17 : List (List D) := []
def A17 : List TA := []
def v17 (vs : List Vr) : Rs := t17
def g17 (xs : List DV) : Bool × List DV × List (List D) := gOf zr17 zo17 (argsT A17 v17 xs)
/-- impl.NewVol -/
def t41 : Rs :=
  some ([.agg [.i .i64 (2 : Int), .l ([[.i .i64 (1 : Int), .i .i64 (2 : Int), .i .i64 (493 : Int), .i .i64 (0 : Int), .i .i64 (0 : Int), .s (⟨#[]⟩ : ByteArray), .l ([] : List (List D)), .i .i64 (0 : Int), .i .i64 (0 : Int)]] : List (List D))]], [])
def zr41 : List DV := [.agg [.i .i64 0, .l []]]
def zo41 : List (List D) := []
def A41 : List TA := []
def v41 (vs : List Vr) : Rs := t41
def g41 (xs : List DV) : Bool × List DV × List (List D) := gOf zr41 zo41 (argsT A41 v41 xs)
/-- impl.NewTenant -/
def t13 : Rs :=
  chk (okR zr41 zo41 t41) <|
  let y1 := asL (resC t41 0 1)
  chk (decide (0 ≤ (0 : Int)) && decide ((0 : Int) < y1.length)) <|
  let y2 := (0 : Int).toNat
  chk (decide (3 ≤ 9 ∧ y2 < y1.length)) <|
  some ([.agg [.i .i64 (asI (resC t41 0 0)), .l (stR y1 y2 2 [.i .i64 (1023 : Int)]), .i .i64 (30 : Int), .l ([] : List (List D)), .l ([] : List (List D))]], [])
def zr13 : List DV := [.agg [.i .i64 0, .l [], .i .i64 0, .l [], .l []]]
def zo13 : List (List D) := []
def A13 : List TA := []
def v13 (vs : List Vr) : Rs := t13
def g13 (xs : List DV) : Bool × List DV × List (List D) := gOf zr13 zo13 (argsT A13 v13 xs)
def l18o0 (q1 : Int → Bool → List (List D) → Rs) : Nat → Int → SV → List (List D) → Rs
  | 0, _, _, _ => none
  | m + 1, n3, v4, l5 =>
    let y1 := decide (n3 < (3 : Int))
    if y1 then
     chk (okR zr13 zo13 t13) <|
     let y2 := ([[.i .i64 (asI (resC t13 0 0)), .l (asL (resC t13 0 1)), .i .i64 (asI (resC t13 0 2)), .l (asL (resC t13 0 3)), .l (asL (resC t13 0 4))]] : List (List D))
     chk (true && decide (l5.length + y2.length ≤ lim)) <|
     l18o0 q1 m (w64 (n3 + (1 : Int))) (.d (.b y1)) (l5 ++ y2)
    else
     q1 n3 y1 l5
/-- impl.NewState -/
def t18 : Rs :=
  l18o0
   (fun (n12 : Int) (b13 : Bool) (l14 : List (List D)) =>
    some ([.one (.l l14)], [])) KK (0 : Int) SV.undef ([] : List (List D))
def zr18 : List DV := [.one (.l [])]
def zo18 : List (List D) := []
def A18 : List TA := []
def v18 (vs : List Vr) : Rs := t18
def g18 (xs : List DV) : Bool × List DV × List (List D) := gOf zr18 zo18 (argsT A18 v18 xs)
/-- laws.eqDirent -/
def t143 (s1 : ByteArray) (n2 : Int) (s3 : ByteArray) (n4 : Int) : Rs :=
  if !(s1.toList == s3.toList) then
   some ([.one (.b false)], [])
  else
   if n2 != n4 then
    some ([.one (.b false)], [])
   else
    some ([.one (.b true)], [])
def zr143 : List DV := [.one (.b false)]
def zo143 : List (List D) := []
def A143 : List TA := [.agg [.s, .i .i64], .agg [.s, .i .i64]]
def v143 (vs : List Vr) : Rs := t143 (vS vs 0) (vI vs 1) (vS vs 2) (vI vs 3)
def g143 (xs : List DV) : Bool × List DV × List (List D) := gOf zr143 zo143 (argsT A143 v143 xs)
def l137o1 (l8 : List (List D)) (l9 : List (List D)) (b10 : Bool) (b12 : Bool) (q1 : Int → Bool → Bool → Rs) (q2 : Int → Bool → SV → Rs) : Nat → Int → SV → SV → Rs
  | 0, _, _, _ => none
  | m + 1, n11, v13, v14 =>
    let y1 := decide (n11 < (l8.length : Int))
    if y1 then
     let y2 := l8.getD n11.toNat []
     chk (decide (0 ≤ n11) && decide (n11 < l8.length) && isRow z129 y2) <|
     let y3 := l9.getD n11.toNat []
     chk (decide (0 ≤ n11) && decide (n11 < l9.length) && isRow z129 y3) <|
     let y4 := t143 (asS (nthD y2 0)) (asI (nthD y2 1)) (asS (nthD y3 0)) (asI (nthD y3 1))
     chk (okR zr143 zo143 y4) <|
     let y5 := !(asB (resC y4 0 0))
     if y5 then
      q1 n11 y1 y5
     else
      l137o1 l8 l9 b10 b12 q1 q2 m (w64 (n11 + (1 : Int))) (.d (.b y1)) (.d (.b y5))
    else
     q2 n11 y1 (keepV [] v14)
/-- laws.eqDirentS -/
def t137 (l1 : List (List D)) (l2 : List (List D)) : Rs :=
  let y1 := (l1.length : Int) != (l2.length : Int)
  if y1 then
   some ([.one (.b false)], [])
  else
   l137o1 l1 l2 false y1
    (fun (n28 : Int) (b29 : Bool) (b30 : Bool) =>
     some ([.one (.b false)], []))
    (fun (n31 : Int) (b32 : Bool) (v33 : SV) =>
     some ([.one (.b true)], [])) KK (0 : Int) SV.undef SV.undef
def zr137 : List DV := [.one (.b false)]
def zo137 : List (List D) := []
def A137 : List TA := [.one (.l), .one (.l)]
def v137 (vs : List Vr) : Rs := t137 (vL vs 0) (vL vs 1)
def g137 (xs : List DV) : Bool × List DV × List (List D) := gOf zr137 zo137 (argsT A137 v137 xs)
/-- laws.eqInode -/
def t120 (n1 : Int) (n2 : Int) (n3 : Int) (n4 : Int) (n5 : Int) (s6 : ByteArray) (l7 : List (List D)) (n8 : Int) (n9 : Int) (n10 : Int) (n11 : Int) (n12 : Int) (n13 : Int) (n14 : Int) (s15 : ByteArray) (l16 : List (List D)) (n17 : Int) (n18 : Int) : Rs :=
  if n1 != n10 then
   some ([.one (.b false)], [])
  else
   if n2 != n11 then
    some ([.one (.b false)], [])
   else
    if n3 != n12 then
     some ([.one (.b false)], [])
    else
     if n4 != n13 then
      some ([.one (.b false)], [])
     else
      if n5 != n14 then
       some ([.one (.b false)], [])
      else
       if !(s6.toList == s15.toList) then
        some ([.one (.b false)], [])
       else
        chk (okR zr137 zo137 (t137 l7 l16)) <|
        if !(asB (resC (t137 l7 l16) 0 0)) then
         some ([.one (.b false)], [])
        else
         if n8 != n17 then
          some ([.one (.b false)], [])
         else
          if n9 != n18 then
           some ([.one (.b false)], [])
          else
           some ([.one (.b true)], [])
def zr120 : List DV := [.one (.b false)]
def zo120 : List (List D) := []
def A120 : List TA := [.agg [.i .i64, .i .i64, .i .i64, .i .i64, .i .i64, .s, .l, .i .i64, .i .i64], .agg [.i .i64, .i .i64, .i .i64, .i .i64, .i .i64, .s, .l, .i .i64, .i .i64]]
def v120 (vs : List Vr) : Rs := t120 (vI vs 0) (vI vs 1) (vI vs 2) (vI vs 3) (vI vs 4) (vS vs 5) (vL vs 6) (vI vs 7) (vI vs 8) (vI vs 9) (vI vs 10) (vI vs 11) (vI vs 12) (vI vs 13) (vS vs 14) (vL vs 15) (vI vs 16) (vI vs 17)
def g120 (xs : List DV) : Bool × List DV × List (List D) := gOf zr120 zo120 (argsT A120 v120 xs)
def l83o1 (l8 : List (List D)) (l9 : List (List D)) (b10 : Bool) (b12 : Bool) (q1 : Int → Bool → Bool → Rs) (q2 : Int → Bool → SV → Rs) : Nat → Int → SV → SV → Rs
  | 0, _, _, _ => none
  | m + 1, n11, v13, v14 =>
    let y1 := decide (n11 < (l8.length : Int))
    if y1 then
     let y2 := l8.getD n11.toNat []
     chk (decide (0 ≤ n11) && decide (n11 < l8.length) && isRow z64 y2) <|
     let y3 := l9.getD n11.toNat []
     chk (decide (0 ≤ n11) && decide (n11 < l9.length) && isRow z64 y3) <|
     let y4 := t120 (asI (nthD y2 0)) (asI (nthD y2 1)) (asI (nthD y2 2)) (asI (nthD y2 3)) (asI (nthD y2 4)) (asS (nthD y2 5)) (asL (nthD y2 6)) (asI (nthD y2 7)) (asI (nthD y2 8)) (asI (nthD y3 0)) (asI (nthD y3 1)) (asI (nthD y3 2)) (asI (nthD y3 3)) (asI (nthD y3 4)) (asS (nthD y3 5)) (asL (nthD y3 6)) (asI (nthD y3 7)) (asI (nthD y3 8))
     chk (okR zr120 zo120 y4) <|
     let y5 := !(asB (resC y4 0 0))
     if y5 then
      q1 n11 y1 y5
     else
      l83o1 l8 l9 b10 b12 q1 q2 m (w64 (n11 + (1 : Int))) (.d (.b y1)) (.d (.b y5))
    else
     q2 n11 y1 (keepV [] v14)
/-- laws.eqInodeS -/
def t83 (l1 : List (List D)) (l2 : List (List D)) : Rs :=
  let y1 := (l1.length : Int) != (l2.length : Int)
  if y1 then
   some ([.one (.b false)], [])
  else
   l83o1 l1 l2 false y1
    (fun (n28 : Int) (b29 : Bool) (b30 : Bool) =>
     some ([.one (.b false)], []))
    (fun (n31 : Int) (b32 : Bool) (v33 : SV) =>
     some ([.one (.b true)], [])) KK (0 : Int) SV.undef SV.undef
def zr83 : List DV := [.one (.b false)]
def zo83 : List (List D) := []
def A83 : List TA := [.one (.l), .one (.l)]
def v83 (vs : List Vr) : Rs := t83 (vL vs 0) (vL vs 1)
def g83 (xs : List DV) : Bool × List DV × List (List D) := gOf zr83 zo83 (argsT A83 v83 xs)
/-- laws.eqVol -/
def t42 (n1 : Int) (l2 : List (List D)) (n3 : Int) (l4 : List (List D)) : Rs :=
  if n1 != n3 then
   some ([.one (.b false)], [])
  else
   chk (okR zr83 zo83 (t83 l2 l4)) <|
   if !(asB (resC (t83 l2 l4) 0 0)) then
    some ([.one (.b false)], [])
   else
    some ([.one (.b true)], [])
def zr42 : List DV := [.one (.b false)]
def zo42 : List (List D) := []
def A42 : List TA := [.agg [.i .i64, .l], .agg [.i .i64, .l]]
def v42 (vs : List Vr) : Rs := t42 (vI vs 0) (vL vs 1) (vI vs 2) (vL vs 3)
def g42 (xs : List DV) : Bool × List DV × List (List D) := gOf zr42 zo42 (argsT A42 v42 xs)
/-- laws.eqNote -/
def t84 (n1 : Int) (n2 : Int) (n3 : Int) (n4 : Int) (n5 : Int) (n6 : Int) (n7 : Int) (n8 : Int) (n9 : Int) (n10 : Int) : Rs :=
  if n1 != n6 then
   some ([.one (.b false)], [])
  else
   if n2 != n7 then
    some ([.one (.b false)], [])
   else
    if n3 != n8 then
     some ([.one (.b false)], [])
    else
     if n4 != n9 then
      some ([.one (.b false)], [])
     else
      if n5 != n10 then
       some ([.one (.b false)], [])
      else
       some ([.one (.b true)], [])
def zr84 : List DV := [.one (.b false)]
def zo84 : List (List D) := []
def A84 : List TA := [.agg [.i .i64, .i .i64, .i .i64, .i .i64, .i .i64], .agg [.i .i64, .i .i64, .i .i64, .i .i64, .i .i64]]
def v84 (vs : List Vr) : Rs := t84 (vI vs 0) (vI vs 1) (vI vs 2) (vI vs 3) (vI vs 4) (vI vs 5) (vI vs 6) (vI vs 7) (vI vs 8) (vI vs 9)
def g84 (xs : List DV) : Bool × List DV × List (List D) := gOf zr84 zo84 (argsT A84 v84 xs)
def l43o1 (l8 : List (List D)) (l9 : List (List D)) (b10 : Bool) (b12 : Bool) (q1 : Int → Bool → Bool → Rs) (q2 : Int → Bool → SV → Rs) : Nat → Int → SV → SV → Rs
  | 0, _, _, _ => none
  | m + 1, n11, v13, v14 =>
    let y1 := decide (n11 < (l8.length : Int))
    if y1 then
     let y2 := l8.getD n11.toNat []
     chk (decide (0 ≤ n11) && decide (n11 < l8.length) && isRow z90 y2) <|
     let y3 := l9.getD n11.toNat []
     chk (decide (0 ≤ n11) && decide (n11 < l9.length) && isRow z90 y3) <|
     let y4 := t84 (asI (nthD y2 0)) (asI (nthD y2 1)) (asI (nthD y2 2)) (asI (nthD y2 3)) (asI (nthD y2 4)) (asI (nthD y3 0)) (asI (nthD y3 1)) (asI (nthD y3 2)) (asI (nthD y3 3)) (asI (nthD y3 4))
     chk (okR zr84 zo84 y4) <|
     let y5 := !(asB (resC y4 0 0))
     if y5 then
      q1 n11 y1 y5
     else
      l43o1 l8 l9 b10 b12 q1 q2 m (w64 (n11 + (1 : Int))) (.d (.b y1)) (.d (.b y5))
    else
     q2 n11 y1 (keepV [] v14)
/-- laws.eqNoteS -/
def t43 (l1 : List (List D)) (l2 : List (List D)) : Rs :=
  let y1 := (l1.length : Int) != (l2.length : Int)
  if y1 then
   some ([.one (.b false)], [])
  else
   l43o1 l1 l2 false y1
    (fun (n28 : Int) (b29 : Bool) (b30 : Bool) =>
     some ([.one (.b false)], []))
    (fun (n31 : Int) (b32 : Bool) (v33 : SV) =>
     some ([.one (.b true)], [])) KK (0 : Int) SV.undef SV.undef
def zr43 : List DV := [.one (.b false)]
def zo43 : List (List D) := []
def A43 : List TA := [.one (.l), .one (.l)]
def v43 (vs : List Vr) : Rs := t43 (vL vs 0) (vL vs 1)
def g43 (xs : List DV) : Bool × List DV × List (List D) := gOf zr43 zo43 (argsT A43 v43 xs)
/-- laws.eqResult -/
def t121 (n1 : Int) (s2 : ByteArray) (n3 : Int) (s4 : ByteArray) : Rs :=
  if n1 != n3 then
   some ([.one (.b false)], [])
  else
   if !(s2.toList == s4.toList) then
    some ([.one (.b false)], [])
   else
    some ([.one (.b true)], [])
def zr121 : List DV := [.one (.b false)]
def zo121 : List (List D) := []
def A121 : List TA := [.agg [.i .i64, .s], .agg [.i .i64, .s]]
def v121 (vs : List Vr) : Rs := t121 (vI vs 0) (vS vs 1) (vI vs 2) (vS vs 3)
def g121 (xs : List DV) : Bool × List DV × List (List D) := gOf zr121 zo121 (argsT A121 v121 xs)
/-- laws.eqSession -/
def t85 (n1 : Int) (n2 : Int) (n3 : Int) (n4 : Int) (s5 : ByteArray) (n6 : Int) (n7 : Int) (n8 : Int) (n9 : Int) (s10 : ByteArray) : Rs :=
  if n1 != n6 then
   some ([.one (.b false)], [])
  else
   if n2 != n7 then
    some ([.one (.b false)], [])
   else
    if n3 != n8 then
     some ([.one (.b false)], [])
    else
     let y1 := t121 n4 s5 n9 s10
     chk (okR zr121 zo121 y1) <|
     if !(asB (resC y1 0 0)) then
      some ([.one (.b false)], [])
     else
      some ([.one (.b true)], [])
def zr85 : List DV := [.one (.b false)]
def zo85 : List (List D) := []
def A85 : List TA := [.agg [.i .i64, .i .i64, .i .i64, .i .i64, .s], .agg [.i .i64, .i .i64, .i .i64, .i .i64, .s]]
def v85 (vs : List Vr) : Rs := t85 (vI vs 0) (vI vs 1) (vI vs 2) (vI vs 3) (vS vs 4) (vI vs 5) (vI vs 6) (vI vs 7) (vI vs 8) (vS vs 9)
def g85 (xs : List DV) : Bool × List DV × List (List D) := gOf zr85 zo85 (argsT A85 v85 xs)
def l44o1 (l8 : List (List D)) (l9 : List (List D)) (b10 : Bool) (b12 : Bool) (q1 : Int → Bool → Bool → Rs) (q2 : Int → Bool → SV → Rs) : Nat → Int → SV → SV → Rs
  | 0, _, _, _ => none
  | m + 1, n11, v13, v14 =>
    let y1 := decide (n11 < (l8.length : Int))
    if y1 then
     let y2 := l8.getD n11.toNat []
     chk (decide (0 ≤ n11) && decide (n11 < l8.length) && isRow z81 y2) <|
     let y3 := l9.getD n11.toNat []
     chk (decide (0 ≤ n11) && decide (n11 < l9.length) && isRow z81 y3) <|
     let y4 := t85 (asI (nthD y2 0)) (asI (nthD y2 1)) (asI (nthD y2 2)) (asI (nthD y2 3)) (asS (nthD y2 4)) (asI (nthD y3 0)) (asI (nthD y3 1)) (asI (nthD y3 2)) (asI (nthD y3 3)) (asS (nthD y3 4))
     chk (okR zr85 zo85 y4) <|
     let y5 := !(asB (resC y4 0 0))
     if y5 then
      q1 n11 y1 y5
     else
      l44o1 l8 l9 b10 b12 q1 q2 m (w64 (n11 + (1 : Int))) (.d (.b y1)) (.d (.b y5))
    else
     q2 n11 y1 (keepV [] v14)
/-- laws.eqSessionS -/
def t44 (l1 : List (List D)) (l2 : List (List D)) : Rs :=
  let y1 := (l1.length : Int) != (l2.length : Int)
  if y1 then
   some ([.one (.b false)], [])
  else
   l44o1 l1 l2 false y1
    (fun (n28 : Int) (b29 : Bool) (b30 : Bool) =>
     some ([.one (.b false)], []))
    (fun (n31 : Int) (b32 : Bool) (v33 : SV) =>
     some ([.one (.b true)], [])) KK (0 : Int) SV.undef SV.undef
def zr44 : List DV := [.one (.b false)]
def zo44 : List (List D) := []
def A44 : List TA := [.one (.l), .one (.l)]
def v44 (vs : List Vr) : Rs := t44 (vL vs 0) (vL vs 1)
def g44 (xs : List DV) : Bool × List DV × List (List D) := gOf zr44 zo44 (argsT A44 v44 xs)
/-- laws.eqTenant -/
def t14 (n1 : Int) (l2 : List (List D)) (n3 : Int) (l4 : List (List D)) (l5 : List (List D)) (n6 : Int) (l7 : List (List D)) (n8 : Int) (l9 : List (List D)) (l10 : List (List D)) : Rs :=
  let y1 := t42 n1 l2 n6 l7
  chk (okR zr42 zo42 y1) <|
  if !(asB (resC y1 0 0)) then
   some ([.one (.b false)], [])
  else
   if n3 != n8 then
    some ([.one (.b false)], [])
   else
    chk (okR zr43 zo43 (t43 l4 l9)) <|
    if !(asB (resC (t43 l4 l9) 0 0)) then
     some ([.one (.b false)], [])
    else
     chk (okR zr44 zo44 (t44 l5 l10)) <|
     if !(asB (resC (t44 l5 l10) 0 0)) then
      some ([.one (.b false)], [])
     else
      some ([.one (.b true)], [])
def zr14 : List DV := [.one (.b false)]
def zo14 : List (List D) := []
def A14 : List TA := [.agg [.i .i64, .l, .i .i64, .l, .l], .agg [.i .i64, .l, .i .i64, .l, .l]]
def v14 (vs : List Vr) : Rs := t14 (vI vs 0) (vL vs 1) (vI vs 2) (vL vs 3) (vL vs 4) (vI vs 5) (vL vs 6) (vI vs 7) (vL vs 8) (vL vs 9)
def g14 (xs : List DV) : Bool × List DV × List (List D) := gOf zr14 zo14 (argsT A14 v14 xs)
def l19o1 (l8 : List (List D)) (l9 : List (List D)) (b10 : Bool) (b12 : Bool) (q1 : Int → Bool → Bool → Rs) (q2 : Int → Bool → SV → Rs) : Nat → Int → SV → SV → Rs
  | 0, _, _, _ => none
  | m + 1, n11, v13, v14 =>
    let y1 := decide (n11 < (l8.length : Int))
    if y1 then
     let y2 := l8.getD n11.toNat []
     chk (decide (0 ≤ n11) && decide (n11 < l8.length) && isRow z28 y2) <|
     let y3 := l9.getD n11.toNat []
     chk (decide (0 ≤ n11) && decide (n11 < l9.length) && isRow z28 y3) <|
     let y4 := t14 (asI (nthD y2 0)) (asL (nthD y2 1)) (asI (nthD y2 2)) (asL (nthD y2 3)) (asL (nthD y2 4)) (asI (nthD y3 0)) (asL (nthD y3 1)) (asI (nthD y3 2)) (asL (nthD y3 3)) (asL (nthD y3 4))
     chk (okR zr14 zo14 y4) <|
     let y5 := !(asB (resC y4 0 0))
     if y5 then
      q1 n11 y1 y5
     else
      l19o1 l8 l9 b10 b12 q1 q2 m (w64 (n11 + (1 : Int))) (.d (.b y1)) (.d (.b y5))
    else
     q2 n11 y1 (keepV [] v14)
/-- laws.eqTenantS -/
def t19 (l1 : List (List D)) (l2 : List (List D)) : Rs :=
  let y1 := (l1.length : Int) != (l2.length : Int)
  if y1 then
   some ([.one (.b false)], [])
  else
   l19o1 l1 l2 false y1
    (fun (n28 : Int) (b29 : Bool) (b30 : Bool) =>
     some ([.one (.b false)], []))
    (fun (n31 : Int) (b32 : Bool) (v33 : SV) =>
     some ([.one (.b true)], [])) KK (0 : Int) SV.undef SV.undef
def zr19 : List DV := [.one (.b false)]
def zo19 : List (List D) := []
def A19 : List TA := [.one (.l), .one (.l)]
def v19 (vs : List Vr) : Rs := t19 (vL vs 0) (vL vs 1)
def g19 (xs : List DV) : Bool × List DV × List (List D) := gOf zr19 zo19 (argsT A19 v19 xs)
def l86o1 (s7 : ByteArray) (b9 : Bool) (q1 : Int → ByteArray → Bool → Rs) : Nat → Int → ByteArray → SV → Rs
  | 0, _, _, _ => none
  | m + 1, n6, s8, v10 =>
    let y1 := decide (n6 > (0 : Int))
    if y1 then
     let y2 := ([[.i .u8 (IntKind.wrap .u8 (w64 ((48 : Int) + (n6.tmod (10 : Int)))))]] : List (List D))
     chk (isBytes y2) <|
     let y3 := ⟨(bytesD y2).toArray⟩
     chk (decide (y3.size + s8.size ≤ lim)) <|
     l86o1 s7 b9 q1 m (w64 (n6.tdiv (10 : Int))) (y3 ++ s8) (.d (.b y1))
    else
     q1 n6 s8 y1
/-- laws.markText -/
def t86 (n1 : Int) : Rs :=
  let y1 := decide (n1 ≤ (0 : Int))
  if y1 then
   some ([.one (.s (⟨#[109, 48]⟩ : ByteArray))], [])
  else
   l86o1 (⟨#[]⟩ : ByteArray) y1
    (fun (n19 : Int) (s20 : ByteArray) (b21 : Bool) =>
     chk (decide ((⟨#[109]⟩ : ByteArray).size + s20.size ≤ lim)) <|
     some ([.one (.s ((⟨#[109]⟩ : ByteArray) ++ s20))], [])) KK n1 (⟨#[]⟩ : ByteArray) SV.undef
def zr86 : List DV := [.one (.s ⟨#[]⟩)]
def zo86 : List (List D) := []
def A86 : List TA := [.one (.i .i64)]
def v86 (vs : List Vr) : Rs := t86 (vI vs 0)
def g86 (xs : List DV) : Bool × List DV × List (List D) := gOf zr86 zo86 (argsT A86 v86 xs)
def l87o0 (n8 : Int) (q1 : Int → Int → Bool → List (List D) → Rs) : Nat → Int → Int → SV → List (List D) → Rs
  | 0, _, _, _, _ => none
  | m + 1, n7, n9, v10, l11 =>
    let y1 := decide (n9 < (l11.length : Int))
    if y1 then
     chk (okR zr86 zo86 (t86 n7)) <|
     chk (decide (0 ≤ n9) && decide (n9 < l11.length)) <|
     chk (decide (1 ≤ 2 ∧ (n9.toNat) < l11.length)) <|
     let y2 := stR l11 (n9.toNat) 0 [.s (asS (resC (t86 n7) 0 0))]
     chk (decide (0 ≤ n9) && decide (n9 < y2.length)) <|
     chk (decide (2 ≤ 2 ∧ (n9.toNat) < y2.length)) <|
     let y3 := w64 (n7 + (1 : Int))
     l87o0 n8 q1 m (w64 (y3 + (1 : Int))) (w64 (n9 + (1 : Int))) (.d (.b y1)) (stR y2 (n9.toNat) 1 [.i .i64 y3])
    else
     q1 n7 n9 y1 l11
/-- laws.markDirentS -/
def t87 (l1 : List (List D)) (n2 : Int) : Rs :=
  l87o0 (0 : Int)
   (fun (n21 : Int) (n22 : Int) (b23 : Bool) (l24 : List (List D)) =>
    some ([.one (.i .i64 n21)], [[.l l24]])) KK n2 (0 : Int) SV.undef l1
def zr87 : List DV := [.one (.i .i64 0)]
def zo87 : List (List D) := [[.l []]]
def A87 : List TA := [.one (.l), .one (.i .i64)]
def v87 (vs : List Vr) : Rs := t87 (vL vs 0) (vI vs 1)
def g87 (xs : List DV) : Bool × List DV × List (List D) := gOf zr87 zo87 (argsT A87 v87 xs)
def l51o0 (n8 : Int) (q1 : Int → Int → Bool → List (List D) → Rs) : Nat → Int → Int → SV → List (List D) → Rs
  | 0, _, _, _, _ => none
  | m + 1, n7, n9, v10, l11 =>
    let y1 := decide (n9 < (l11.length : Int))
    if y1 then
     chk (decide (0 ≤ n9) && decide (n9 < l11.length)) <|
     chk (decide (1 ≤ 9 ∧ (n9.toNat) < l11.length)) <|
     let y2 := stR l11 (n9.toNat) 0 [.i .i64 n7]
     chk (decide (0 ≤ n9) && decide (n9 < y2.length)) <|
     chk (decide (2 ≤ 9 ∧ (n9.toNat) < y2.length)) <|
     let y3 := w64 (n7 + (1 : Int))
     let y4 := stR y2 (n9.toNat) 1 [.i .i64 y3]
     chk (decide (0 ≤ n9) && decide (n9 < y4.length)) <|
     chk (decide (3 ≤ 9 ∧ (n9.toNat) < y4.length)) <|
     let y5 := w64 (y3 + (1 : Int))
     let y6 := stR y4 (n9.toNat) 2 [.i .i64 y5]
     chk (decide (0 ≤ n9) && decide (n9 < y6.length)) <|
     chk (decide (4 ≤ 9 ∧ (n9.toNat) < y6.length)) <|
     let y7 := w64 (y5 + (1 : Int))
     let y8 := stR y6 (n9.toNat) 3 [.i .i64 y7]
     chk (decide (0 ≤ n9) && decide (n9 < y8.length)) <|
     chk (decide (5 ≤ 9 ∧ (n9.toNat) < y8.length)) <|
     let y9 := w64 (y7 + (1 : Int))
     let y10 := w64 (y9 + (1 : Int))
     let y11 := t86 y10
     chk (okR zr86 zo86 y11) <|
     let y12 := stR y8 (n9.toNat) 4 [.i .i64 y9]
     chk (decide (0 ≤ n9) && decide (n9 < y12.length)) <|
     chk (decide (6 ≤ 9 ∧ (n9.toNat) < y12.length)) <|
     let y13 := stR y12 (n9.toNat) 5 [.s (asS (resC y11 0 0))]
     chk (decide (0 ≤ n9) && decide (n9 < y13.length)) <|
     let y14 := y13.getD (n9.toNat) []
     let y15 := asL (nthD y14 6)
     let y16 := t87 y15 (w64 (y10 + (1 : Int)))
     chk (okR zr87 zo87 y16 && (decide (6 + 1 ≤ y14.length) && isF [.l []] 6 y14 && fstSz 2 y15)) <|
     let y17 := stR y13 (n9.toNat) 6 [.l (asL (outC y16 0 0))]
     chk (decide (0 ≤ n9) && decide (n9 < y17.length)) <|
     chk (decide (8 ≤ 9 ∧ (n9.toNat) < y17.length)) <|
     let y18 := asI (resC y16 0 0)
     let y19 := stR y17 (n9.toNat) 7 [.i .i64 y18]
     chk (decide (0 ≤ n9) && decide (n9 < y19.length)) <|
     chk (decide (9 ≤ 9 ∧ (n9.toNat) < y19.length)) <|
     let y20 := w64 (y18 + (1 : Int))
     l51o0 n8 q1 m (w64 (y20 + (1 : Int))) (w64 (n9 + (1 : Int))) (.d (.b y1)) (stR y19 (n9.toNat) 8 [.i .i64 y20])
    else
     q1 n7 n9 y1 l11
/-- laws.markInodeS -/
def t51 (l1 : List (List D)) (n2 : Int) : Rs :=
  l51o0 (0 : Int)
   (fun (n21 : Int) (n22 : Int) (b23 : Bool) (l24 : List (List D)) =>
    some ([.one (.i .i64 n21)], [[.l l24]])) KK n2 (0 : Int) SV.undef l1
def zr51 : List DV := [.one (.i .i64 0)]
def zo51 : List (List D) := [[.l []]]
def A51 : List TA := [.one (.l), .one (.i .i64)]
def v51 (vs : List Vr) : Rs := t51 (vL vs 0) (vI vs 1)
def g51 (xs : List DV) : Bool × List DV × List (List D) := gOf zr51 zo51 (argsT A51 v51 xs)
def l46o0 (n8 : Int) (q1 : Int → Int → Bool → List (List D) → Rs) : Nat → Int → Int → SV → List (List D) → Rs
  | 0, _, _, _, _ => none
  | m + 1, n7, n9, v10, l11 =>
    let y1 := decide (n9 < (l11.length : Int))
    if y1 then
     chk (decide (0 ≤ n9) && decide (n9 < l11.length)) <|
     chk (decide (1 ≤ 5 ∧ (n9.toNat) < l11.length)) <|
     let y2 := stR l11 (n9.toNat) 0 [.i .i64 n7]
     chk (decide (0 ≤ n9) && decide (n9 < y2.length)) <|
     chk (decide (2 ≤ 5 ∧ (n9.toNat) < y2.length)) <|
     let y3 := w64 (n7 + (1 : Int))
     let y4 := stR y2 (n9.toNat) 1 [.i .i64 y3]
     chk (decide (0 ≤ n9) && decide (n9 < y4.length)) <|
     chk (decide (3 ≤ 5 ∧ (n9.toNat) < y4.length)) <|
     let y5 := w64 (y3 + (1 : Int))
     let y6 := stR y4 (n9.toNat) 2 [.i .i64 y5]
     chk (decide (0 ≤ n9) && decide (n9 < y6.length)) <|
     chk (decide (4 ≤ 5 ∧ (n9.toNat) < y6.length)) <|
     let y7 := w64 (y5 + (1 : Int))
     let y8 := stR y6 (n9.toNat) 3 [.i .i64 y7]
     chk (decide (0 ≤ n9) && decide (n9 < y8.length)) <|
     chk (decide (5 ≤ 5 ∧ (n9.toNat) < y8.length)) <|
     let y9 := w64 (y7 + (1 : Int))
     l46o0 n8 q1 m (w64 (y9 + (1 : Int))) (w64 (n9 + (1 : Int))) (.d (.b y1)) (stR y8 (n9.toNat) 4 [.i .i64 y9])
    else
     q1 n7 n9 y1 l11
/-- laws.markNoteS -/
def t46 (l1 : List (List D)) (n2 : Int) : Rs :=
  l46o0 (0 : Int)
   (fun (n21 : Int) (n22 : Int) (b23 : Bool) (l24 : List (List D)) =>
    some ([.one (.i .i64 n21)], [[.l l24]])) KK n2 (0 : Int) SV.undef l1
def zr46 : List DV := [.one (.i .i64 0)]
def zo46 : List (List D) := [[.l []]]
def A46 : List TA := [.one (.l), .one (.i .i64)]
def v46 (vs : List Vr) : Rs := t46 (vL vs 0) (vI vs 1)
def g46 (xs : List DV) : Bool × List DV × List (List D) := gOf zr46 zo46 (argsT A46 v46 xs)
def l47o0 (n8 : Int) (q1 : Int → Int → Bool → List (List D) → Rs) : Nat → Int → Int → SV → List (List D) → Rs
  | 0, _, _, _, _ => none
  | m + 1, n7, n9, v10, l11 =>
    let y1 := decide (n9 < (l11.length : Int))
    if y1 then
     chk (decide (0 ≤ n9) && decide (n9 < l11.length)) <|
     chk (decide (1 ≤ 5 ∧ (n9.toNat) < l11.length)) <|
     let y2 := stR l11 (n9.toNat) 0 [.i .i64 n7]
     chk (decide (0 ≤ n9) && decide (n9 < y2.length)) <|
     chk (decide (2 ≤ 5 ∧ (n9.toNat) < y2.length)) <|
     let y3 := w64 (n7 + (1 : Int))
     let y4 := stR y2 (n9.toNat) 1 [.i .i64 y3]
     chk (decide (0 ≤ n9) && decide (n9 < y4.length)) <|
     chk (decide (3 ≤ 5 ∧ (n9.toNat) < y4.length)) <|
     let y5 := w64 (y3 + (1 : Int))
     let y6 := stR y4 (n9.toNat) 2 [.i .i64 y5]
     chk (decide (0 ≤ n9) && decide (n9 < y6.length)) <|
     chk (decide (4 ≤ 5 ∧ (n9.toNat) < y6.length)) <|
     let y7 := w64 (y5 + (1 : Int))
     let y8 := w64 (y7 + (1 : Int))
     let y9 := t86 y8
     chk (okR zr86 zo86 y9) <|
     let y10 := stR y6 (n9.toNat) 3 [.i .i64 y7]
     chk (decide (0 ≤ n9) && decide (n9 < y10.length)) <|
     chk (decide (5 ≤ 5 ∧ (n9.toNat) < y10.length)) <|
     l47o0 n8 q1 m (w64 (y8 + (1 : Int))) (w64 (n9 + (1 : Int))) (.d (.b y1)) (stR y10 (n9.toNat) 4 [.s (asS (resC y9 0 0))])
    else
     q1 n7 n9 y1 l11
/-- laws.markSessionS -/
def t47 (l1 : List (List D)) (n2 : Int) : Rs :=
  l47o0 (0 : Int)
   (fun (n21 : Int) (n22 : Int) (b23 : Bool) (l24 : List (List D)) =>
    some ([.one (.i .i64 n21)], [[.l l24]])) KK n2 (0 : Int) SV.undef l1
def zr47 : List DV := [.one (.i .i64 0)]
def zo47 : List (List D) := [[.l []]]
def A47 : List TA := [.one (.l), .one (.i .i64)]
def v47 (vs : List Vr) : Rs := t47 (vL vs 0) (vI vs 1)
def g47 (xs : List DV) : Bool × List DV × List (List D) := gOf zr47 zo47 (argsT A47 v47 xs)
def l20o0 (n8 : Int) (q1 : Int → Int → Bool → List (List D) → Rs) : Nat → Int → Int → SV → List (List D) → Rs
  | 0, _, _, _, _ => none
  | m + 1, n7, n9, v10, l11 =>
    let y1 := decide (n9 < (l11.length : Int))
    if y1 then
     chk (decide (0 ≤ n9) && decide (n9 < l11.length)) <|
     chk (decide (1 ≤ 5 ∧ (n9.toNat) < l11.length)) <|
     let y2 := stR l11 (n9.toNat) 0 [.i .i64 n7]
     chk (decide (0 ≤ n9) && decide (n9 < y2.length)) <|
     let y3 := y2.getD (n9.toNat) []
     let y4 := asL (nthD y3 1)
     let y5 := t51 y4 (w64 (n7 + (1 : Int)))
     chk (okR zr51 zo51 y5 && (decide (1 + 1 ≤ y3.length) && isF [.l []] 1 y3 && fstSz 9 y4)) <|
     let y6 := stR y2 (n9.toNat) 1 [.l (asL (outC y5 0 0))]
     chk (decide (0 ≤ n9) && decide (n9 < y6.length)) <|
     chk (decide (3 ≤ 5 ∧ (n9.toNat) < y6.length)) <|
     let y7 := asI (resC y5 0 0)
     let y8 := stR y6 (n9.toNat) 2 [.i .i64 y7]
     chk (decide (0 ≤ n9) && decide (n9 < y8.length)) <|
     let y9 := y8.getD (n9.toNat) []
     let y10 := asL (nthD y9 3)
     let y11 := t46 y10 (w64 (y7 + (1 : Int)))
     chk (okR zr46 zo46 y11 && (decide (3 + 1 ≤ y9.length) && isF [.l []] 3 y9 && fstSz 5 y10)) <|
     let y12 := stR y8 (n9.toNat) 3 [.l (asL (outC y11 0 0))]
     chk (decide (0 ≤ n9) && decide (n9 < y12.length)) <|
     let y13 := y12.getD (n9.toNat) []
     let y14 := asL (nthD y13 4)
     let y15 := t47 y14 (asI (resC y11 0 0))
     chk (okR zr47 zo47 y15 && (decide (4 + 1 ≤ y13.length) && isF [.l []] 4 y13 && fstSz 5 y14)) <|
     l20o0 n8 q1 m (asI (resC y15 0 0)) (w64 (n9 + (1 : Int))) (.d (.b y1)) (stR y12 (n9.toNat) 4 [.l (asL (outC y15 0 0))])
    else
     q1 n7 n9 y1 l11
/-- laws.markTenantS -/
def t20 (l1 : List (List D)) (n2 : Int) : Rs :=
  l20o0 (0 : Int)
   (fun (n21 : Int) (n22 : Int) (b23 : Bool) (l24 : List (List D)) =>
    some ([.one (.i .i64 n21)], [[.l l24]])) KK n2 (0 : Int) SV.undef l1
def zr20 : List DV := [.one (.i .i64 0)]
def zo20 : List (List D) := [[.l []]]
def A20 : List TA := [.one (.l), .one (.i .i64)]
def v20 (vs : List Vr) : Rs := t20 (vL vs 0) (vI vs 1)
def g20 (xs : List DV) : Bool × List DV × List (List D) := gOf zr20 zo20 (argsT A20 v20 xs)
def l88o0 (l7 : List (List D)) (n9 : Int) (q1 : Int → Int → Bool → Bool → SV → Rs) (q2 : Int → Int → Bool → Bool → Bool → Rs) (q3 : Int → Int → Bool → SV → SV → Rs) : Nat → Int → Int → SV → SV → SV → Rs
  | 0, _, _, _, _, _ => none
  | m + 1, n8, n10, v11, v12, v13 =>
    let y1 := decide (n10 < (l7.length : Int))
    if y1 then
     let y2 := l7.getD n10.toNat []
     chk (decide (0 ≤ n10) && decide (n10 < l7.length) && isRow z129 y2) <|
     chk (okR zr86 zo86 (t86 n8)) <|
     let y3 := !((asS (nthD y2 0)).toList == (asS (resC (t86 n8) 0 0)).toList)
     if y3 then
      q1 n8 n10 y1 y3 v13
     else
      let y4 := l7.getD n10.toNat []
      chk (decide (0 ≤ n10) && decide (n10 < l7.length) && isRow z129 y4) <|
      let y5 := w64 (n8 + (1 : Int))
      let y6 := (asI (nthD y4 1)) != y5
      if y6 then
       q2 y5 n10 y1 y3 y6
      else
       l88o0 l7 n9 q1 q2 q3 m (w64 (y5 + (1 : Int))) (w64 (n10 + (1 : Int))) (.d (.b y1)) (.d (.b y3)) (.d (.b y6))
    else
     q3 n8 n10 y1 (keepV [] v12) (keepV [] v13)
/-- laws.heldDirentS -/
def t88 (l1 : List (List D)) (n2 : Int) : Rs :=
  l88o0 l1 (0 : Int)
   (fun (n36 : Int) (n37 : Int) (b38 : Bool) (b39 : Bool) (v40 : SV) =>
    some ([.one (.i .i64 (-1 : Int))], []))
   (fun (n41 : Int) (n42 : Int) (b43 : Bool) (b44 : Bool) (b45 : Bool) =>
    some ([.one (.i .i64 (-1 : Int))], []))
   (fun (n46 : Int) (n47 : Int) (b48 : Bool) (v49 : SV) (v50 : SV) =>
    some ([.one (.i .i64 n46)], [])) KK n2 (0 : Int) SV.undef SV.undef SV.undef
def zr88 : List DV := [.one (.i .i64 0)]
def zo88 : List (List D) := []
def A88 : List TA := [.one (.l), .one (.i .i64)]
def v88 (vs : List Vr) : Rs := t88 (vL vs 0) (vI vs 1)
def g88 (xs : List DV) : Bool × List DV × List (List D) := gOf zr88 zo88 (argsT A88 v88 xs)
def l52o0 (l7 : List (List D)) (n9 : Int) (q1 : Int → Int → Bool → Bool → SV → SV → SV → SV → SV → SV → SV → SV → Rs) (q2 : Int → Int → Bool → Bool → Bool → SV → SV → SV → SV → SV → SV → SV → Rs) (q3 : Int → Int → Bool → Bool → Bool → Bool → SV → SV → SV → SV → SV → SV → Rs) (q4 : Int → Int → Bool → Bool → Bool → Bool → Bool → SV → SV → SV → SV → SV → Rs) (q5 : Int → Int → Bool → Bool → Bool → Bool → Bool → Bool → SV → SV → SV → SV → Rs) (q6 : Int → Int → Bool → Bool → Bool → Bool → Bool → Bool → Bool → SV → SV → SV → Rs) (q7 : Int → Int → Bool → Bool → Bool → Bool → Bool → Bool → Bool → Bool → SV → SV → Rs) (q8 : Int → Int → Bool → Bool → Bool → Bool → Bool → Bool → Bool → Bool → Bool → SV → Rs) (q9 : Int → Int → Bool → Bool → Bool → Bool → Bool → Bool → Bool → Bool → Bool → Bool → Rs) (q10 : Int → Int → Bool → SV → SV → SV → SV → SV → SV → SV → SV → SV → Rs) : Nat → Int → Int → SV → SV → SV → SV → SV → SV → SV → SV → SV → SV → Rs
  | 0, _, _, _, _, _, _, _, _, _, _, _, _ => none
  | m + 1, n8, n10, v11, v12, v13, v14, v15, v16, v17, v18, v19, v20 =>
    let y1 := decide (n10 < (l7.length : Int))
    if y1 then
     let y2 := l7.getD n10.toNat []
     chk (decide (0 ≤ n10) && decide (n10 < l7.length) && isRow z64 y2) <|
     let y3 := (asI (nthD y2 0)) != n8
     if y3 then
      q1 n8 n10 y1 y3 v13 v14 v15 v16 v17 v18 v19 v20
     else
      let y4 := l7.getD n10.toNat []
      chk (decide (0 ≤ n10) && decide (n10 < l7.length) && isRow z64 y4) <|
      let y5 := w64 (n8 + (1 : Int))
      let y6 := (asI (nthD y4 1)) != y5
      if y6 then
       q2 y5 n10 y1 y3 y6 v14 v15 v16 v17 v18 v19 v20
      else
       let y7 := l7.getD n10.toNat []
       chk (decide (0 ≤ n10) && decide (n10 < l7.length) && isRow z64 y7) <|
       let y8 := w64 (y5 + (1 : Int))
       let y9 := (asI (nthD y7 2)) != y8
       if y9 then
        q3 y8 n10 y1 y3 y6 y9 v15 v16 v17 v18 v19 v20
       else
        let y10 := l7.getD n10.toNat []
        chk (decide (0 ≤ n10) && decide (n10 < l7.length) && isRow z64 y10) <|
        let y11 := w64 (y8 + (1 : Int))
        let y12 := (asI (nthD y10 3)) != y11
        if y12 then
         q4 y11 n10 y1 y3 y6 y9 y12 v16 v17 v18 v19 v20
        else
         let y13 := l7.getD n10.toNat []
         chk (decide (0 ≤ n10) && decide (n10 < l7.length) && isRow z64 y13) <|
         let y14 := w64 (y11 + (1 : Int))
         let y15 := (asI (nthD y13 4)) != y14
         if y15 then
          q5 y14 n10 y1 y3 y6 y9 y12 y15 v17 v18 v19 v20
         else
          let y16 := l7.getD n10.toNat []
          chk (decide (0 ≤ n10) && decide (n10 < l7.length) && isRow z64 y16) <|
          let y17 := w64 (y14 + (1 : Int))
          let y18 := t86 y17
          chk (okR zr86 zo86 y18) <|
          let y19 := !((asS (nthD y16 5)).toList == (asS (resC y18 0 0)).toList)
          if y19 then
           q6 y17 n10 y1 y3 y6 y9 y12 y15 y19 v18 v19 v20
          else
           let y20 := l7.getD n10.toNat []
           chk (decide (0 ≤ n10) && decide (n10 < l7.length) && isRow z64 y20) <|
           let y21 := t88 (asL (nthD y20 6)) (w64 (y17 + (1 : Int)))
           chk (okR zr88 zo88 y21) <|
           let y22 := asI (resC y21 0 0)
           let y23 := decide (y22 < (0 : Int))
           if y23 then
            q7 y22 n10 y1 y3 y6 y9 y12 y15 y19 y23 v19 v20
           else
            let y24 := l7.getD n10.toNat []
            chk (decide (0 ≤ n10) && decide (n10 < l7.length) && isRow z64 y24) <|
            let y25 := (asI (nthD y24 7)) != y22
            if y25 then
             q8 y22 n10 y1 y3 y6 y9 y12 y15 y19 y23 y25 v20
            else
             let y26 := l7.getD n10.toNat []
             chk (decide (0 ≤ n10) && decide (n10 < l7.length) && isRow z64 y26) <|
             let y27 := w64 (y22 + (1 : Int))
             let y28 := (asI (nthD y26 8)) != y27
             if y28 then
              q9 y27 n10 y1 y3 y6 y9 y12 y15 y19 y23 y25 y28
             else
              l52o0 l7 n9 q1 q2 q3 q4 q5 q6 q7 q8 q9 q10 m (w64 (y27 + (1 : Int))) (w64 (n10 + (1 : Int))) (.d (.b y1)) (.d (.b y3)) (.d (.b y6)) (.d (.b y9)) (.d (.b y12)) (.d (.b y15)) (.d (.b y19)) (.d (.b y23)) (.d (.b y25)) (.d (.b y28))
    else
     q10 n8 n10 y1 (keepV [] v12) (keepV [] v13) (keepV [] v14) (keepV [] v15) (keepV [] v16) (keepV [] v17) (keepV [] v18) (keepV [] v19) (keepV [] v20)
/-- laws.heldInodeS -/
def t52 (l1 : List (List D)) (n2 : Int) : Rs :=
  l52o0 l1 (0 : Int)
   (fun (n155 : Int) (n156 : Int) (b157 : Bool) (b158 : Bool) (v159 : SV) (v160 : SV) (v161 : SV) (v162 : SV) (v163 : SV) (v164 : SV) (v165 : SV) (v166 : SV) =>
    some ([.one (.i .i64 (-1 : Int))], []))
   (fun (n167 : Int) (n168 : Int) (b169 : Bool) (b170 : Bool) (b171 : Bool) (v172 : SV) (v173 : SV) (v174 : SV) (v175 : SV) (v176 : SV) (v177 : SV) (v178 : SV) =>
    some ([.one (.i .i64 (-1 : Int))], []))
   (fun (n179 : Int) (n180 : Int) (b181 : Bool) (b182 : Bool) (b183 : Bool) (b184 : Bool) (v185 : SV) (v186 : SV) (v187 : SV) (v188 : SV) (v189 : SV) (v190 : SV) =>
    some ([.one (.i .i64 (-1 : Int))], []))
   (fun (n191 : Int) (n192 : Int) (b193 : Bool) (b194 : Bool) (b195 : Bool) (b196 : Bool) (b197 : Bool) (v198 : SV) (v199 : SV) (v200 : SV) (v201 : SV) (v202 : SV) =>
    some ([.one (.i .i64 (-1 : Int))], []))
   (fun (n203 : Int) (n204 : Int) (b205 : Bool) (b206 : Bool) (b207 : Bool) (b208 : Bool) (b209 : Bool) (b210 : Bool) (v211 : SV) (v212 : SV) (v213 : SV) (v214 : SV) =>
    some ([.one (.i .i64 (-1 : Int))], []))
   (fun (n215 : Int) (n216 : Int) (b217 : Bool) (b218 : Bool) (b219 : Bool) (b220 : Bool) (b221 : Bool) (b222 : Bool) (b223 : Bool) (v224 : SV) (v225 : SV) (v226 : SV) =>
    some ([.one (.i .i64 (-1 : Int))], []))
   (fun (n227 : Int) (n228 : Int) (b229 : Bool) (b230 : Bool) (b231 : Bool) (b232 : Bool) (b233 : Bool) (b234 : Bool) (b235 : Bool) (b236 : Bool) (v237 : SV) (v238 : SV) =>
    some ([.one (.i .i64 (-1 : Int))], []))
   (fun (n239 : Int) (n240 : Int) (b241 : Bool) (b242 : Bool) (b243 : Bool) (b244 : Bool) (b245 : Bool) (b246 : Bool) (b247 : Bool) (b248 : Bool) (b249 : Bool) (v250 : SV) =>
    some ([.one (.i .i64 (-1 : Int))], []))
   (fun (n251 : Int) (n252 : Int) (b253 : Bool) (b254 : Bool) (b255 : Bool) (b256 : Bool) (b257 : Bool) (b258 : Bool) (b259 : Bool) (b260 : Bool) (b261 : Bool) (b262 : Bool) =>
    some ([.one (.i .i64 (-1 : Int))], []))
   (fun (n263 : Int) (n264 : Int) (b265 : Bool) (v266 : SV) (v267 : SV) (v268 : SV) (v269 : SV) (v270 : SV) (v271 : SV) (v272 : SV) (v273 : SV) (v274 : SV) =>
    some ([.one (.i .i64 n263)], [])) KK n2 (0 : Int) SV.undef SV.undef SV.undef SV.undef SV.undef SV.undef SV.undef SV.undef SV.undef SV.undef
def zr52 : List DV := [.one (.i .i64 0)]
def zo52 : List (List D) := []
def A52 : List TA := [.one (.l), .one (.i .i64)]
def v52 (vs : List Vr) : Rs := t52 (vL vs 0) (vI vs 1)
def g52 (xs : List DV) : Bool × List DV × List (List D) := gOf zr52 zo52 (argsT A52 v52 xs)
def l49o0 (l7 : List (List D)) (n9 : Int) (q1 : Int → Int → Bool → Bool → SV → SV → SV → SV → Rs) (q2 : Int → Int → Bool → Bool → Bool → SV → SV → SV → Rs) (q3 : Int → Int → Bool → Bool → Bool → Bool → SV → SV → Rs) (q4 : Int → Int → Bool → Bool → Bool → Bool → Bool → SV → Rs) (q5 : Int → Int → Bool → Bool → Bool → Bool → Bool → Bool → Rs) (q6 : Int → Int → Bool → SV → SV → SV → SV → SV → Rs) : Nat → Int → Int → SV → SV → SV → SV → SV → SV → Rs
  | 0, _, _, _, _, _, _, _, _ => none
  | m + 1, n8, n10, v11, v12, v13, v14, v15, v16 =>
    let y1 := decide (n10 < (l7.length : Int))
    if y1 then
     let y2 := l7.getD n10.toNat []
     chk (decide (0 ≤ n10) && decide (n10 < l7.length) && isRow z90 y2) <|
     let y3 := (asI (nthD y2 0)) != n8
     if y3 then
      q1 n8 n10 y1 y3 v13 v14 v15 v16
     else
      let y4 := l7.getD n10.toNat []
      chk (decide (0 ≤ n10) && decide (n10 < l7.length) && isRow z90 y4) <|
      let y5 := w64 (n8 + (1 : Int))
      let y6 := (asI (nthD y4 1)) != y5
      if y6 then
       q2 y5 n10 y1 y3 y6 v14 v15 v16
      else
       let y7 := l7.getD n10.toNat []
       chk (decide (0 ≤ n10) && decide (n10 < l7.length) && isRow z90 y7) <|
       let y8 := w64 (y5 + (1 : Int))
       let y9 := (asI (nthD y7 2)) != y8
       if y9 then
        q3 y8 n10 y1 y3 y6 y9 v15 v16
       else
        let y10 := l7.getD n10.toNat []
        chk (decide (0 ≤ n10) && decide (n10 < l7.length) && isRow z90 y10) <|
        let y11 := w64 (y8 + (1 : Int))
        let y12 := (asI (nthD y10 3)) != y11
        if y12 then
         q4 y11 n10 y1 y3 y6 y9 y12 v16
        else
         let y13 := l7.getD n10.toNat []
         chk (decide (0 ≤ n10) && decide (n10 < l7.length) && isRow z90 y13) <|
         let y14 := w64 (y11 + (1 : Int))
         let y15 := (asI (nthD y13 4)) != y14
         if y15 then
          q5 y14 n10 y1 y3 y6 y9 y12 y15
         else
          l49o0 l7 n9 q1 q2 q3 q4 q5 q6 m (w64 (y14 + (1 : Int))) (w64 (n10 + (1 : Int))) (.d (.b y1)) (.d (.b y3)) (.d (.b y6)) (.d (.b y9)) (.d (.b y12)) (.d (.b y15))
    else
     q6 n8 n10 y1 (keepV [] v12) (keepV [] v13) (keepV [] v14) (keepV [] v15) (keepV [] v16)
/-- laws.heldNoteS -/
def t49 (l1 : List (List D)) (n2 : Int) : Rs :=
  l49o0 l1 (0 : Int)
   (fun (n75 : Int) (n76 : Int) (b77 : Bool) (b78 : Bool) (v79 : SV) (v80 : SV) (v81 : SV) (v82 : SV) =>
    some ([.one (.i .i64 (-1 : Int))], []))
   (fun (n83 : Int) (n84 : Int) (b85 : Bool) (b86 : Bool) (b87 : Bool) (v88 : SV) (v89 : SV) (v90 : SV) =>
    some ([.one (.i .i64 (-1 : Int))], []))
   (fun (n91 : Int) (n92 : Int) (b93 : Bool) (b94 : Bool) (b95 : Bool) (b96 : Bool) (v97 : SV) (v98 : SV) =>
    some ([.one (.i .i64 (-1 : Int))], []))
   (fun (n99 : Int) (n100 : Int) (b101 : Bool) (b102 : Bool) (b103 : Bool) (b104 : Bool) (b105 : Bool) (v106 : SV) =>
    some ([.one (.i .i64 (-1 : Int))], []))
   (fun (n107 : Int) (n108 : Int) (b109 : Bool) (b110 : Bool) (b111 : Bool) (b112 : Bool) (b113 : Bool) (b114 : Bool) =>
    some ([.one (.i .i64 (-1 : Int))], []))
   (fun (n115 : Int) (n116 : Int) (b117 : Bool) (v118 : SV) (v119 : SV) (v120 : SV) (v121 : SV) (v122 : SV) =>
    some ([.one (.i .i64 n115)], [])) KK n2 (0 : Int) SV.undef SV.undef SV.undef SV.undef SV.undef SV.undef
def zr49 : List DV := [.one (.i .i64 0)]
def zo49 : List (List D) := []
def A49 : List TA := [.one (.l), .one (.i .i64)]
def v49 (vs : List Vr) : Rs := t49 (vL vs 0) (vI vs 1)
def g49 (xs : List DV) : Bool × List DV × List (List D) := gOf zr49 zo49 (argsT A49 v49 xs)
def l50o0 (l7 : List (List D)) (n9 : Int) (q1 : Int → Int → Bool → Bool → SV → SV → SV → SV → Rs) (q2 : Int → Int → Bool → Bool → Bool → SV → SV → SV → Rs) (q3 : Int → Int → Bool → Bool → Bool → Bool → SV → SV → Rs) (q4 : Int → Int → Bool → Bool → Bool → Bool → Bool → SV → Rs) (q5 : Int → Int → Bool → Bool → Bool → Bool → Bool → Bool → Rs) (q6 : Int → Int → Bool → SV → SV → SV → SV → SV → Rs) : Nat → Int → Int → SV → SV → SV → SV → SV → SV → Rs
  | 0, _, _, _, _, _, _, _, _ => none
  | m + 1, n8, n10, v11, v12, v13, v14, v15, v16 =>
    let y1 := decide (n10 < (l7.length : Int))
    if y1 then
     let y2 := l7.getD n10.toNat []
     chk (decide (0 ≤ n10) && decide (n10 < l7.length) && isRow z81 y2) <|
     let y3 := (asI (nthD y2 0)) != n8
     if y3 then
      q1 n8 n10 y1 y3 v13 v14 v15 v16
     else
      let y4 := l7.getD n10.toNat []
      chk (decide (0 ≤ n10) && decide (n10 < l7.length) && isRow z81 y4) <|
      let y5 := w64 (n8 + (1 : Int))
      let y6 := (asI (nthD y4 1)) != y5
      if y6 then
       q2 y5 n10 y1 y3 y6 v14 v15 v16
      else
       let y7 := l7.getD n10.toNat []
       chk (decide (0 ≤ n10) && decide (n10 < l7.length) && isRow z81 y7) <|
       let y8 := w64 (y5 + (1 : Int))
       let y9 := (asI (nthD y7 2)) != y8
       if y9 then
        q3 y8 n10 y1 y3 y6 y9 v15 v16
       else
        let y10 := l7.getD n10.toNat []
        chk (decide (0 ≤ n10) && decide (n10 < l7.length) && isRow z81 y10) <|
        let y11 := w64 (y8 + (1 : Int))
        let y12 := (asI (nthD y10 3)) != y11
        if y12 then
         q4 y11 n10 y1 y3 y6 y9 y12 v16
        else
         let y13 := l7.getD n10.toNat []
         chk (decide (0 ≤ n10) && decide (n10 < l7.length) && isRow z81 y13) <|
         let y14 := w64 (y11 + (1 : Int))
         let y15 := t86 y14
         chk (okR zr86 zo86 y15) <|
         let y16 := !((asS (nthD y13 4)).toList == (asS (resC y15 0 0)).toList)
         if y16 then
          q5 y14 n10 y1 y3 y6 y9 y12 y16
         else
          l50o0 l7 n9 q1 q2 q3 q4 q5 q6 m (w64 (y14 + (1 : Int))) (w64 (n10 + (1 : Int))) (.d (.b y1)) (.d (.b y3)) (.d (.b y6)) (.d (.b y9)) (.d (.b y12)) (.d (.b y16))
    else
     q6 n8 n10 y1 (keepV [] v12) (keepV [] v13) (keepV [] v14) (keepV [] v15) (keepV [] v16)
/-- laws.heldSessionS -/
def t50 (l1 : List (List D)) (n2 : Int) : Rs :=
  l50o0 l1 (0 : Int)
   (fun (n75 : Int) (n76 : Int) (b77 : Bool) (b78 : Bool) (v79 : SV) (v80 : SV) (v81 : SV) (v82 : SV) =>
    some ([.one (.i .i64 (-1 : Int))], []))
   (fun (n83 : Int) (n84 : Int) (b85 : Bool) (b86 : Bool) (b87 : Bool) (v88 : SV) (v89 : SV) (v90 : SV) =>
    some ([.one (.i .i64 (-1 : Int))], []))
   (fun (n91 : Int) (n92 : Int) (b93 : Bool) (b94 : Bool) (b95 : Bool) (b96 : Bool) (v97 : SV) (v98 : SV) =>
    some ([.one (.i .i64 (-1 : Int))], []))
   (fun (n99 : Int) (n100 : Int) (b101 : Bool) (b102 : Bool) (b103 : Bool) (b104 : Bool) (b105 : Bool) (v106 : SV) =>
    some ([.one (.i .i64 (-1 : Int))], []))
   (fun (n107 : Int) (n108 : Int) (b109 : Bool) (b110 : Bool) (b111 : Bool) (b112 : Bool) (b113 : Bool) (b114 : Bool) =>
    some ([.one (.i .i64 (-1 : Int))], []))
   (fun (n115 : Int) (n116 : Int) (b117 : Bool) (v118 : SV) (v119 : SV) (v120 : SV) (v121 : SV) (v122 : SV) =>
    some ([.one (.i .i64 n115)], [])) KK n2 (0 : Int) SV.undef SV.undef SV.undef SV.undef SV.undef SV.undef
def zr50 : List DV := [.one (.i .i64 0)]
def zo50 : List (List D) := []
def A50 : List TA := [.one (.l), .one (.i .i64)]
def v50 (vs : List Vr) : Rs := t50 (vL vs 0) (vI vs 1)
def g50 (xs : List DV) : Bool × List DV × List (List D) := gOf zr50 zo50 (argsT A50 v50 xs)
def l21o0 (l7 : List (List D)) (n9 : Int) (q1 : Int → Int → Bool → Bool → SV → SV → SV → SV → Rs) (q2 : Int → Int → Bool → Bool → Bool → SV → SV → SV → Rs) (q3 : Int → Int → Bool → Bool → Bool → Bool → SV → SV → Rs) (q4 : Int → Int → Bool → Bool → Bool → Bool → Bool → SV → Rs) (q5 : Int → Int → Bool → Bool → Bool → Bool → Bool → Bool → Rs) (q6 : Int → Int → Bool → SV → SV → SV → SV → SV → Rs) : Nat → Int → Int → SV → SV → SV → SV → SV → SV → Rs
  | 0, _, _, _, _, _, _, _, _ => none
  | m + 1, n8, n10, v11, v12, v13, v14, v15, v16 =>
    let y1 := decide (n10 < (l7.length : Int))
    if y1 then
     let y2 := l7.getD n10.toNat []
     chk (decide (0 ≤ n10) && decide (n10 < l7.length) && isRow z28 y2) <|
     let y3 := (asI (nthD y2 0)) != n8
     if y3 then
      q1 n8 n10 y1 y3 v13 v14 v15 v16
     else
      let y4 := l7.getD n10.toNat []
      chk (decide (0 ≤ n10) && decide (n10 < l7.length) && isRow z28 y4) <|
      let y5 := t52 (asL (nthD y4 1)) (w64 (n8 + (1 : Int)))
      chk (okR zr52 zo52 y5) <|
      let y6 := asI (resC y5 0 0)
      let y7 := decide (y6 < (0 : Int))
      if y7 then
       q2 y6 n10 y1 y3 y7 v14 v15 v16
      else
       let y8 := l7.getD n10.toNat []
       chk (decide (0 ≤ n10) && decide (n10 < l7.length) && isRow z28 y8) <|
       let y9 := (asI (nthD y8 2)) != y6
       if y9 then
        q3 y6 n10 y1 y3 y7 y9 v15 v16
       else
        let y10 := l7.getD n10.toNat []
        chk (decide (0 ≤ n10) && decide (n10 < l7.length) && isRow z28 y10) <|
        let y11 := t49 (asL (nthD y10 3)) (w64 (y6 + (1 : Int)))
        chk (okR zr49 zo49 y11) <|
        let y12 := asI (resC y11 0 0)
        let y13 := decide (y12 < (0 : Int))
        if y13 then
         q4 y12 n10 y1 y3 y7 y9 y13 v16
        else
         let y14 := l7.getD n10.toNat []
         chk (decide (0 ≤ n10) && decide (n10 < l7.length) && isRow z28 y14) <|
         let y15 := t50 (asL (nthD y14 4)) y12
         chk (okR zr50 zo50 y15) <|
         let y16 := asI (resC y15 0 0)
         let y17 := decide (y16 < (0 : Int))
         if y17 then
          q5 y16 n10 y1 y3 y7 y9 y13 y17
         else
          l21o0 l7 n9 q1 q2 q3 q4 q5 q6 m y16 (w64 (n10 + (1 : Int))) (.d (.b y1)) (.d (.b y3)) (.d (.b y7)) (.d (.b y9)) (.d (.b y13)) (.d (.b y17))
    else
     q6 n8 n10 y1 (keepV [] v12) (keepV [] v13) (keepV [] v14) (keepV [] v15) (keepV [] v16)
/-- laws.heldTenantS -/
def t21 (l1 : List (List D)) (n2 : Int) : Rs :=
  l21o0 l1 (0 : Int)
   (fun (n75 : Int) (n76 : Int) (b77 : Bool) (b78 : Bool) (v79 : SV) (v80 : SV) (v81 : SV) (v82 : SV) =>
    some ([.one (.i .i64 (-1 : Int))], []))
   (fun (n83 : Int) (n84 : Int) (b85 : Bool) (b86 : Bool) (b87 : Bool) (v88 : SV) (v89 : SV) (v90 : SV) =>
    some ([.one (.i .i64 (-1 : Int))], []))
   (fun (n91 : Int) (n92 : Int) (b93 : Bool) (b94 : Bool) (b95 : Bool) (b96 : Bool) (v97 : SV) (v98 : SV) =>
    some ([.one (.i .i64 (-1 : Int))], []))
   (fun (n99 : Int) (n100 : Int) (b101 : Bool) (b102 : Bool) (b103 : Bool) (b104 : Bool) (b105 : Bool) (v106 : SV) =>
    some ([.one (.i .i64 (-1 : Int))], []))
   (fun (n107 : Int) (n108 : Int) (b109 : Bool) (b110 : Bool) (b111 : Bool) (b112 : Bool) (b113 : Bool) (b114 : Bool) =>
    some ([.one (.i .i64 (-1 : Int))], []))
   (fun (n115 : Int) (n116 : Int) (b117 : Bool) (v118 : SV) (v119 : SV) (v120 : SV) (v121 : SV) (v122 : SV) =>
    some ([.one (.i .i64 n115)], [])) KK n2 (0 : Int) SV.undef SV.undef SV.undef SV.undef SV.undef SV.undef
def zr21 : List DV := [.one (.i .i64 0)]
def zo21 : List (List D) := []
def A21 : List TA := [.one (.l), .one (.i .i64)]
def v21 (vs : List Vr) : Rs := t21 (vL vs 0) (vI vs 1)
def g21 (xs : List DV) : Bool × List DV × List (List D) := gOf zr21 zo21 (argsT A21 v21 xs)
/-- laws.FnExactNewState -/
def t4 : Rs :=
  chk (okR zr17 zo17 t17) <|
  chk (okR zr18 zo18 t18) <|
  let y1 := asL (resC t18 0 0)
  let y2 := asL (resC t17 0 0)
  let y3 := t19 y1 y2
  chk (okR zr19 zo19 y3) <|
  if !(asB (resC y3 0 0)) then
   some ([.one (.b false)], [])
  else
   let y4 := t20 y1 (1 : Int)
   chk (okR zr20 zo20 y4) <|
   let y5 := asL (outC y4 0 0)
   let y6 := t21 y5 (1 : Int)
   chk (okR zr21 zo21 y6) <|
   let y7 := asI (resC y6 0 0)
   if decide (y7 < (0 : Int)) then
    some ([.one (.b false)], [])
   else
    let y8 := asI (resC y4 0 0)
    if y7 != y8 then
     some ([.one (.b false)], [])
    else
     chk (okR zr18 zo18 t18) <|
     let y9 := t19 (asL (resC t18 0 0)) y2
     chk (okR zr19 zo19 y9) <|
     if !(asB (resC y9 0 0)) then
      some ([.one (.b false)], [])
     else
      let y10 := t21 y5 (1 : Int)
      chk (okR zr21 zo21 y10) <|
      let y11 := asI (resC y10 0 0)
      if decide (y11 < (0 : Int)) then
       some ([.one (.b false)], [])
      else
       if y11 != y8 then
        some ([.one (.b false)], [])
       else
        some ([.one (.b true)], [])
def zr4 : List DV := [.one (.b false)]
def zo4 : List (List D) := []
def A4 : List TA := []
def v4 (vs : List Vr) : Rs := t4
def g4 (xs : List DV) : Bool × List DV × List (List D) := gOf zr4 zo4 (argsT A4 v4 xs)
end
end Go.Den.L4
